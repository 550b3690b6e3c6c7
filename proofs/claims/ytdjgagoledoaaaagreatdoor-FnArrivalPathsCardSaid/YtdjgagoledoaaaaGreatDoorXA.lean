/- A logic of symbolic frames: each step of a function's code is taken by one lemma, the frame is a short list of the slots that are known. Over any program. -/
import Derived.WalkKit
import Derived.Deep.LoopGhost
import Derived.IntWalk
import Derived.Deep.Quiet
import Derived.Laws.CopyRow
import Derived.ProofKit
import Derived.ChangeArms
import Derived.Carry
import Derived.Deep.RegionHeld3
import Derived.Laws.MakeOwn
import Derived.Laws.BytesArg
import Derived.Maps.AppendAt
import Derived.Deep.Upon
import Derived.Laws.StructEq
import Derived.Laws.Pointers
import Derived.Lib.Join
import Derived.Lib.ItoaLen
import Derived.Laws.Slices
set_option maxHeartbeats 0
namespace Go.Proofs
theorem oi {c:Type _} (a b:c):(some a=some b)=(a=b):=Option.some.injEq a b
theorem pj {f e:Type _} (a:f) (b:e) (c:f) (d:e):((a,b)=(c,d))=(a=c∧b=d):=Prod.mk.injEq a b c d
theorem ba (a b:Bool):((a&&b)=true)=(a=true∧b=true):=Bool.and_eq_true a b
theorem nb {n m:Nat} (h:n.beq m=true):n=m:=Nat.eq_of_beq_eq_true h
theorem ce {a:Sort _} (b:Bool) (t e:a):(bif b then t else e)=if b=true then t else e:=cond_eq_ite b t e
theorem gq {b:Type _} {l:List b} {i:Nat} {a:b}:l.getD i a=l[i]?.getD a:=List.getD_eq_getElem?_getD
theorem dq {p:Prop} [Decidable p]:(decide p=true)=p:=decide_eq_true_eq
theorem oo {a b:Prop} (h:a:=by omega) (k:b:=by omega):a∧b:=⟨h,k⟩
end Go.Proofs
section
namespace Go.Proofs.Sv
open Go Go.RowKit
abbrev D1:=List (Nat×Value)
def lk:D1->Nat->Option Value
 | [],_=>none
 | (d,v) :: e,t=>cond (Nat.beq d t) (some v) (lk e t)
def ev(e:D1):Operand->Option Value
 | .tmp t=>lk e t
 | .const v=>some v
 | .global g=>some (.pointer (some ⟨g,0,none⟩))
 | .func f=>some (.func (.func f) #[] #[])
def evl(e:D1):List Operand->Option (List Value)
 | []=>some []
 | x :: r=>match ev e x,evl e r with | some v,some vs=>some (v :: vs) | _,_=>none
def Agree(n:Nat)(e:D1)(a:Act):Prop:=a.defers=[]/\a.tmps.size=n/\∀t v,lk e t=some v->a.tmps.getD t undef=v
theorem RZ(d:Nat)(v:Value)(e:D1)(t:Nat):lk ((d,v) :: e) t=if d=t then some v else lk e t:=by
 show cond (Nat.beq d t) (some v) (lk e t)=_
 simp_all
theorem Agree.ev{n:Nat}{e:D1}{a:Act}(h:Agree n e a){x:Operand}{v:Value}(b:ev e x=some v):a.eval x=v:=by
 cases x with
 | tmp t=>exact h.2.2 t v b
 | const u=>grind[Sv.ev,Act.eval]
 | global g=>grind[Sv.ev,Act.eval]
 | func f=>grind[Sv.ev,Act.eval]
theorem Agree.evl{n:Nat}{e:D1}{a:Act}(h:Agree n e a):∀{xs:List Operand} {vs:List Value},evl e xs=some vs->xs.map a.eval=vs
 | [],vs,hx=>by grind[Sv.evl]
 | x :: r,vs,hx=>by
   unfold Sv.evl at hx;split at hx
   ·rename_i v d c b;simp at hx; subst hx;simp[h.ev c,h.evl b]
   grind
theorem Agree.put{n:Nat}{e:D1}{a:Act}(h:Agree n e a)(d:Nat)(g:Nat.blt d n=true)(v:Value):Agree n ((d,v) :: e) (a.put (some d) v):=by
 have f:d<a.tmps.size:=by rw[h.2.1]; simpa using g
 refine⟨h.1,?_,fun t u c=>?_⟩
 ·simp[Act.put,h.2.1]
 ·rw[RZ] at c;by_cases b:d=t
  ·subst b;simp only[if_true,oi] at c;subst c;simp[Act.put,f]
  ·simp only[b,if_false] at c;have:=h.2.2 t u c;simp only[Act.put]
   simp_all
def Sub(e' e:D1):Prop:=∀t v,lk e' t=some v->lk e t=some v
theorem Agree.sub{n:Nat}{e e':D1}{a:Act}(h:Agree n e a)(c:Sub e' e):Agree n e' a:=⟨h.1,h.2.1,fun t v b=>h.2.2 t v (c t v b)⟩
def VO(P:Program)(n:Nat)(ops:Array Oper)(l:List Oper)(e:D1)(w:World)(Q:Exit->Act->World->Prop):Prop:=∀a,Agree n e a->wpList P ops Q l a w
def Sa(P:Program)(y:Code)(Q:Exit->Act->World->Prop):Exit->Act->World->Prop:=Exit.then (y.wp P Q) Q
def Oa(id:Nat)(Q:Exit->Act->World->Prop):Exit->Act->World->Prop:=Exit.inBlock id Q
section
variable {P:Program} {n:Nat} {e:D1} {w:World} {Q:Exit->Act->World->Prop}
end
def F6(P:Program)(n:Nat)(e:D1)(op:Op)(ty:TypeId)(w:World)(v:Value)(w':World):Prop :=
 ∀a dst pos after g,Agree n e a->(execOp a.eval ⟨dst,op,ty,pos,after,g⟩).run P w=.ok (.value v) w'
def L0V(P:Program)(n:Nat)(e:D1)(op:Op)(ty:TypeId)(w:World)(w':World):Prop :=
 ∀a dst pos after g,Agree n e a->(execOp a.eval ⟨dst,op,ty,pos,after,g⟩).run P w=.ok .skip w'
section
variable {P:Program} {n:Nat} {e:D1} {w:World} {Q:Exit->Act->World->Prop} {ops:Array Oper} {rest:List Oper}
theorem M0e{d:Nat}{f:Op}{ty:TypeId}{c:String}{b:Array Edge}{w':World}(v:Value)(j:F6 P n e f ty w v w')(i:Nat.blt d n=true)
  (h:VO P n ops rest ((d,v) :: e) w' Q):VO P n ops (⟨some d,f,ty,c,b,none⟩ :: rest) e w Q:=by
 intro a g;refine wpList_plain rfl fun K k=>?_;unfold Oper.wp;rw[j a (some d) c b none g];exact k _ _ (h _ (g.put d i v))
theorem K0o{d:Op}{ty:TypeId}{c:String}{b:Array Edge}{w':World}(g:L0V P n e d ty w w')
  (h:VO P n ops rest e w' Q):VO P n ops (⟨none,d,ty,c,b,none⟩ :: rest) e w Q:=by
 intro a f;refine wpList_plain rfl fun K i=>?_;unfold Oper.wp;rw[g a none c b none f];exact i _ _ (h _ f)
def XQ:BinOp->Int->Int->Option Bool
 | .eql,a,b=>some (a==b)
 | .neq,a,b=>some (a != b)
 | .lss,a,b=>some (decide (a<b))
 | .leq,a,b=>some (decide (a<=b))
 | .gtr,a,b=>some (decide (a > b))
 | .geq,a,b=>some (decide (a≥b))
 | _,_,_=>none
def Sb:BinOp->ByteArray->ByteArray->Option Bool
 | .eql,a,b=>some (decide (a=b))
 | .neq,a,b=>some (!decide (a=b))
 | _,_,_=>none
def Oc:BinOp->Value->Value->Option Value
 | op,.int k a,.int k' b=>if k=k' then(match XQ op a b with | some r=>some (.bool r) | none=>none) else none
 | op,.string a,.string b=>match Sb op a b with | some r=>some (.bool r) | none=>none
 | _,_,_=>none
def AL(e:D1):Op->Option Value
 | .move x=>ev e x
 | .assign x=>ev e x
 | .pick c a b=>match ev e c with
   | some (.bool true)=>ev e a
   | some (.bool false)=>ev e b
   | _=>none
 | .unOp .not _ x=>match ev e x with
   | some (.bool b)=>some (.bool (!b))
   | _=>none
 | .extract x i=>match ev e x with
   | some (.tuple vs)=>vs.toList[i]?
   | _=>none
 | .binOp op _ x y _=>match ev e x,ev e y with
   | some u,some v=>Oc op u v
   | _,_=>none
 | .makeFunc fn first cap=>match evl e first.toList,evl e cap.toList with
   | some fs,some cs=>some (.func fn fs.toArray cs.toArray)
   | _,_=>none
 | _=>none
theorem z0F(a b:ByteArray):(a.toList==b.toList)=decide (a=b):=by
 rw[Bool.eq_iff_iff,beq_iff_eq,dq,ByteArray.toList_eq,ByteArray.toList_eq];constructor
 ·intro h; cases a; simp_all
 grind
theorem BZ{l:Op}{ty:TypeId}{v:Value}(h:AL e l=some v):F6 P n e l ty w v w:=by
 intro a G z i g b;unfold AL at h;split at h
 ·simp only[execOp,b.ev h]; rfl
 ·simp only[execOp,b.ev h]; rfl
 ·rename_i c x y;split at h
  ·rename_i f; simp only[execOp,b.ev f,<- b.ev h]; rfl
  ·rename_i f; simp only[execOp,b.ev f,<- b.ev h]; rfl
  grind
 ·split at h
  ·rename_i f; simp only[oi] at h; subst h; simp only[execOp,b.ev f]; rfl
  grind
 ·split at h
  ·rename_i vs f; rw[Array.getElem?_toList] at h; simp only[execOp,b.ev f,Instr.extract,h]; rfl
  grind
 ·rename_i l T x y W;split at h
  ·rename_i u X s o;unfold Oc at h;split at h
   ·rename_i k p Q q;split at h
    ·rename_i F; subst F;split at h
     ·rename_i r d;simp only[oi] at h; subst h;unfold XQ at d;split at d <;> simp only[oi,reduceCtorEq] at d <;> subst d <;> simp[execOp,b.ev s,b.ev o,eqGuard,binOp,Op.intCmp]
     grind
    grind
   ·rename_i p q;split at h
    ·rename_i r d;simp only[oi] at h; subst h;unfold Sb at d;split at d <;> simp only[oi,reduceCtorEq] at d <;> subst d <;> simp[execOp,b.ev s,b.ev o,eqGuard,binOp,Op.stringOp,z0F]
    grind
   grind
  grind
 ·split at h
  ·rename_i V Y j m;simp only[oi] at h; subst h;have E:=b.evl j;have t:=b.evl m;have H:∀(x:Array Operand),x.map a.eval=(x.toList.map a.eval).toArray:=fun x=>by grind
   simp only[execOp,Instr.makeFunc,H,E,t];rfl
  grind
 grind
end
def X0(P:Program)(T:TypeId):Bool:=match P.underlying T with
 | some (.struct _) | some (.array ..) | none=>false
 | _=>true
class Sc(P:Program)(T:TypeId):Prop where h:X0 P T=true
class AM(P:Program)(T:TypeId)(E:outParam TypeId):Prop where h:P.underlying T=some (.slice E)
class Od(P:Program)(T:TypeId):Prop where h:P.underlying T=some .string
def Se(P:Program)(T:TypeId):Option (Nat×Nat×Option Value):=(P.info? T).map fun i=>(i.size,i.bytes,i.zero)
class Info(P:Program)(T:TypeId)(size bytes:outParam Nat)(z:outParam Value):Prop where h:Se P T=some (size,bytes,some z)
def Bq(P:Program)(T:TypeId):Bool:=match P.underlying T with
 | some (.struct _) | some (.array ..)=>true
 | _=>false
class Sf(P:Program)(T:TypeId):Prop where h:Bq P T=true
def Oe(P:Program)(T:TypeId)(k:Nat):Option (Nat×Bool):=match P.underlying T with
 | some (.struct fs)=>match fs[k]? with
   | some f=>some (f.offset,match P.info? f.type with | some i=>!(i.size==0) | none=>false)
   | none=>none
 | _=>none
class w0N(P:Program)(T:TypeId)(k:Nat)(off:outParam Nat):Prop where h:Oe P T k=some (off,true)
def AN(P:Program)(f:Nat):Bool:=match P.funcs[f]? with
 | some fn => !(fn.name == "runtime.NumGoroutine") && fn.body.isSome
 | none=>false
class Sg(P:Program)(f:Nat):Prop where h:AN P f=true
theorem g0M{P:Program}{T:TypeId}{i:TypeInfo}(w:World)(h:P.info? T=some i):(typeInfo T).run P w=.ok i w:=by
 have a:(program).run P w=.ok P w:=rfl;unfold typeInfo
 simp_all
theorem X1{P:Program}{T:TypeId}{i:TypeInfo}(w:World)(h:P.info? T=some i):(sizeOf T).run P w=.ok i.size w:=by
 unfold sizeOf; rw[Sem.run_bind,g0M w h]; rfl
theorem Si{P:Program}{T:TypeId}{i:TypeInfo}{z:Value}(w:World)(h:P.info? T=some i)(hz:i.zero=some z):(zeroValue T).run P w=.ok z w:=by
 unfold zeroValue; rw[Sem.run_bind,g0M w h]; simp_all
theorem Info.get{P:Program}{T s y:Nat}{z:Value}(h:Info P T s y z):∃i,P.info? T=some i/\i.size=s/\i.bytes=y/\i.zero=some z:=by
 have hi:=h.h;unfold Se at hi
 simp_all
def Blk(w:World)(b:Nat)(cs:List Value)(T:TypeId):Prop:=w.heap[b]?=some (.cells cs.toArray T (0,0))
def At(w:World)(b o:Nat)(cs:List Value):Prop:=∀i u,cs[i]?=some u->w.cell? ⟨b,o+i,none⟩=some u
abbrev Ext(w w':World):Prop:=Below w.heap.size w w'
theorem Ext.refl(w:World):Ext w w:=Below.refl _ _
theorem Ext.trans{a b c:World}(h:Ext a b)(k:Ext b c):Ext a c:=Below.trans h (Below.mono k h.size)
theorem Blk.lt{w:World}{b:Nat}{cs:List Value}{T:TypeId}(h:Blk w b cs T):b<w.heap.size:=by
 grind[Nat.lt_or_ge,Blk,Array.getElem?_eq_none]
theorem Blk.ext{w w':World}{b:Nat}{cs:List Value}{T:TypeId}(h:Blk w b cs T)(k:Ext w w'):Blk w' b cs T:=by
 unfold Blk; rw[k.block b h.lt]; exact h
theorem Blk.up{w w':World}{b:Nat}{cs:List Value}{T:TypeId}(h:Blk w b cs T)(k:Ext w w'):Blk w' b cs T:=h.ext k
theorem Blk.at{w:World}{b:Nat}{cs:List Value}{T:TypeId}(h:Blk w b cs T):At w b 0 cs:=by
 intro i u a;unfold World.cell?;rw[show(⟨b,0+i,none⟩:Addr).block=b from rfl,h]
 grind
theorem At.lt{w:World}{b o:Nat}{cs:List Value}(h:At w b o cs)(d:0<cs.length):b<w.heap.size:=by
 have c:=h 0 cs[0] (by grind);rcases Nat.lt_or_ge b w.heap.size with a | a
 ·exact a
 ·unfold World.cell? at c; grind
theorem At.same{w w':World}{b o:Nat}{cs:List Value}(h:At w b o cs)(k:b<w.heap.size->w'.heap[b]?=w.heap[b]?):At w' b o cs:=by
 intro i u a;have d:0<cs.length:=by rcases Nat.lt_or_ge i cs.length with c | c; omega; rw[List.getElem?_eq_none c] at a; cases a
 have:=h i u a;rw[<- this];exact World.cell?_of_block (w:=w) (k (h.lt d))
theorem At.ext{w w':World}{b o:Nat}{cs:List Value}(h:At w b o cs)(k:Ext w w'):At w' b o cs:=h.same (fun a=>k.block b a)
theorem At.up{w w':World}{b o:Nat}{cs:List Value}(h:At w b o cs)(k:Ext w w'):At w' b o cs:=h.ext k
theorem At.mid{w:World}{b o:Nat}{pre c post:List Value}(h:At w b o (pre++c++post)):At w b (o+pre.length) c:=by
 intro i u d;have e:i<c.length:=by rcases Nat.lt_or_ge i c.length with a | a; exact a; rw[List.getElem?_eq_none a] at d; cases d
 have:=h (pre.length+i) u (by grind)
 grind
structure S0k(w:World)(b:Nat)(w':World):Prop where
 eq:w.heap.size=b
 ext:Ext w w'
 size:w'.heap.size=b+1
structure Wr(b:Nat)(w w':World):Prop where
 os:w'.os=w.os
 tape:w'.tape=w.tape
 output:w'.output=w.output
 size:w'.heap.size=w.heap.size
 block:∀k,k≠b->w'.heap[k]?=w.heap[k]?
theorem Wr.below{b B:Nat}{w w':World}(h:Wr b w w')(c:B<=b):Below B w w':=⟨h.os,h.tape,h.output,by rw[h.size]; exact Nat.le_refl _,fun k a=>h.block k (by omega)⟩
theorem XR(w:World)(o:Obj):S0k w w.heap.size (w.alloc o):=⟨rfl,(Below.refl _ _).alloc (Nat.le_refl _) _,by simp⟩
theorem XS(w:World)(cs:Array Value)(T:TypeId):Blk (w.alloc (.cells cs T)) w.heap.size cs.toList T:=by
 unfold Blk World.alloc; simp
section
variable {P:Program} {n:Nat} {e:D1} {w:World} {Q:Exit->Act->World->Prop} {ops:Array Oper} {rest:List Oper}
 {d:Nat} {ty:TypeId} {pos:String} {after:Array Edge}
theorem j0l{T:TypeId}{x:Operand}{b o f c:Nat}[v:w0N P T f c](s:ev e x=some (.pointer (some ⟨b,o,none⟩))) :
  F6 P n e (.fieldAddr T x f) ty w (.pointer (some ⟨b,o+c,none⟩)) w:=by
 intro a r q l g u;have h:=v.h;unfold Oe at h;split at h
 ·rename_i E j;split at h
  ·rename_i y k;simp only[oi,pj] at h;obtain⟨z,m⟩:=h;split at m
   ·rename_i i hi;have t:¬i.size=0:=by simpa using m
    have d:(Addr.mk b o none).add y.offset=⟨b,o+c,none⟩:=by
     unfold Addr.add;rw[z];split
     ·grind
     ·rfl
    simp only[execOp,u.ev s];simp[Instr.fieldAt,run_underlying j,k,Instr.sureAddr,fieldPlace,X1 w hi,t,Result.andThen,d]
   grind
  grind
 grind
theorem i0r{T:TypeId}{e:Addr}{v:Value}[f:Sc P T](h:w.cell? e=some v):(loadVar T e).run P w=.ok v w:=by
 have c:=f.h;unfold X0 at c;split at c
 ·cases c
 ·cases c
 ·cases c
 ·rename_i i g k;cases hu:P.underlying T with
  | none=>grind
  | some d =>
    have:(isAgg T).run P w=.ok false w:=by
     unfold isAgg;simp only[Sem.run_bind,run_underlying hu,Result.andThen];cases d with
     | struct j=>grind
     | array a b=>grind
     | _=>rfl
    simp[loadVar,this,h,load,Sem.run,Result.andThen]
theorem u0G{T:TypeId}{x:Operand}{c:Addr}{v:Value}[Sc P T](f:ev e x=some (.pointer (some c)))(h:w.cell? c=some v):F6 P n e (.load T x) ty w v w:=by
 intro a d j b g i;simp only[execOp,i.ev f];simp[Instr.loadAt,Instr.sureAddr,i0r h,Result.andThen]
theorem i0s{T:TypeId}{b o s y:Nat}{z:Value}{cs:List Value}[q:Sf P T][i:Info P T s y z](g:cs.length=s)(h:At w b o cs):(loadVar T ⟨b,o,none⟩).run P w=.ok (.agg cs.toArray) w:=by
 have e:=q.h;unfold Bq at e;obtain⟨l,d,k,r,u⟩:=i.get;have n:(isAgg T).run P w=.ok true w:=by
  split at e
  ·rename_i t c; unfold isAgg; simp[run_underlying c,Result.andThen]
  ·rename_i a b c; unfold isAgg; simp[run_underlying c,Result.andThen]
  ·cases e
 have f:=run_loadCells_list (P:=P) w ⟨b,o,none⟩ cs (fun j v m=>by
  have:=h j v m
  grind[Addr.add])
 rw[g,<- k] at f;simp[loadVar,n,X1 w d,Result.andThen,f]
theorem r0W{T:TypeId}{x:Operand}{b o s y:Nat}{z:Value}{cs:List Value}[Sf P T][Info P T s y z](i:ev e x=some (.pointer (some ⟨b,o,none⟩)))(d:cs.length=s)(h:At w b o cs):F6 P n e (.load T x) ty w (.agg cs.toArray) w:=by
 intro a f k c g j;simp only[execOp,j.ev i];simp[Instr.loadAt,Instr.sureAddr,i0s d h,Result.andThen]
theorem y0r{T T':TypeId}{x y:Operand}{a b:Int}(h:ev e x=some (.int .i64 a))(j:ev e y=some (.int .i64 b))(i : -9223372036854775808<=a+b/\a+b<=9223372036854775807) :
  F6 P n e (.binOp .add T x y T') ty w (.int .i64 (a+b)) w:=by
 intro l f k c g d;simp only[execOp,d.ev h,d.ev j];simp[eqGuard,binOp,Op.intArith,IntWalk.i64_in _ i]
theorem y0h{T T':TypeId}{x y:Operand}{a b:Int}(h:ev e x=some (.int .i64 a))(j:ev e y=some (.int .i64 b))(i : -9223372036854775808<=a-b/\a-b<=9223372036854775807) :
  F6 P n e (.binOp .sub T x y T') ty w (.int .i64 (a-b)) w:=by
 intro l f k c g d;simp only[execOp,d.ev h,d.ev j];simp[eqGuard,binOp,Op.intArith,IntWalk.i64_in _ i]
theorem y0n{T T':TypeId}{x y:Operand}{a b:Int}(h:ev e x=some (.int .i64 a))(j:ev e y=some (.int .i64 b))(i : -9223372036854775808<=a*b/\a*b<=9223372036854775807) :
  F6 P n e (.binOp .mul T x y T') ty w (.int .i64 (a*b)) w:=by
 intro l f k c g d;simp only[execOp,d.ev h,d.ev j];simp[eqGuard,binOp,Op.intArith,IntWalk.i64_in _ i]
theorem y0q{T T':TypeId}{x y:Operand}{s t:ByteArray}(f:ev e x=some (.string s))(h:ev e y=some (.string t))(k:s.size+t.size<=9223372036854775807) :
  F6 P n e (.binOp .add T x y T') ty w (.string (s++t)) w:=by
 intro j d i b g c;have a:¬(9223372036854775807:Int) < (s.size:Int)+(t.size:Int):=by omega
 simp only[execOp,c.ev f,c.ev h];simp[eqGuard,binOp,Op.stringOp,a]
theorem XT{f:Nat}[h:Sg P f](a:Array Value):(callFunc f a).run P w=.ok (.enter f a) w:=by
 have b:=h.h;unfold AN at b;split at b
 ·rename_i g d;simp only[ba,Bool.not_eq_true',Option.isSome_iff_exists] at b;obtain⟨j,c,i⟩:=b;have e:(program).run P w=.ok P w:=rfl;unfold callFunc
  simp_all
 grind
end
class K1(P:Program):Prop where h:P.follows .mixedOrders=true
section
variable {P:Program} {n:Nat} {e:D1} {w:World} {Q:Exit->Act->World->Prop} {ops:Array Oper} {rest:List Oper}
 {d:Nat} {ty:TypeId} {pos:String} {after:Array Edge}
end
class Rep(α:Type) where
 sz:Nat
 pos:0<sz
 rep:Nat->Nat->World->List Value->α->Prop
 len:∀{lo hi w cs x},rep lo hi w cs x->cs.length=sz
 same:∀{lo hi w w' cs x},rep lo hi w cs x->(∀k,lo<=k->k<hi->k<w.heap.size->w'.heap[k]?=w.heap[k]?)->rep lo hi w' cs x
 wide:∀{lo hi lo' hi' w cs x},rep lo hi w cs x->lo'<=lo->hi<=hi'->rep lo' hi' w cs x
def R6(x:Int):Prop := -9223372036854775808<=x/\x<=9223372036854775807
instance:Rep Int where
 sz:=1
 pos:=Nat.one_pos
 rep _ _ _ cs x:=cs=[.int .i64 x]/\R6 x
 len h:=by grind
 same h _:=h
 wide h _ _:=h
instance:Rep Bool where
 sz:=1
 pos:=Nat.one_pos
 rep _ _ _ cs x:=cs=[.bool x]
 len h:=by grind
 same h _:=h
 wide h _ _:=h
instance:Rep ByteArray where
 sz:=1
 pos:=Nat.one_pos
 rep _ _ _ cs x:=cs=[.string x]/\x.size<=9223372036854775807
 len h:=by grind
 same h _:=h
 wide h _ _:=h
section
variable {α:Type} [Rep α]
def All(lo hi:Nat)(w:World):List Value->List α->Prop
 | cs,[]=>cs=[]
 | cs,x :: r=>∃c d,cs=c++d/\Rep.rep lo hi w c x/\All lo hi w d r
theorem All.len{lo hi:Nat}{w:World}:∀{cs:List Value} {xs:List α},All lo hi w cs xs->cs.length=xs.length*Rep.sz α
 | cs,[],h=>by rw[show cs=[] from h]; simp
 | cs,x :: r,h=>by
   obtain⟨c,d,rfl,b,a⟩:=h;rw[List.length_append,Rep.len b,All.len a,List.length_cons,Nat.add_mul]; omega
theorem All.same{lo hi:Nat}{w w':World}(k:∀k,lo<=k->k<hi->k<w.heap.size->w'.heap[k]?=w.heap[k]?):∀{cs:List Value} {xs:List α},All lo hi w cs xs->All lo hi w' cs xs
 | _,[],h=>h
 | _,_ :: _,h=>by
   obtain⟨c,d,rfl,b,a⟩:=h;exact⟨c,d,rfl,Rep.same b k,All.same k a⟩
theorem All.wide{lo hi a b:Nat}{w:World}(e:a<=lo)(f:hi<=b):∀{cs:List Value} {xs:List α},All lo hi w cs xs->All a b w cs xs
 | _,[],h=>h
 | _,_ :: _,h=>by
   obtain⟨c,d,rfl,i,g⟩:=h;exact⟨c,d,rfl,Rep.wide i e f,All.wide e f g⟩
theorem All.app{lo hi:Nat}{w:World}{ds:List Value}{a:List α}(k:All lo hi w ds a):∀{cs:List Value} {xs:List α},All lo hi w cs xs->All lo hi w (cs++ds) (xs++a)
 | cs,[],h=>by rw[show cs=[] from h]; exact k
 | _,_ :: _,h=>by
   obtain⟨c,d,rfl,e,b⟩:=h;exact⟨c,d++ds,by simp,e,All.app k b⟩
theorem All.one{lo hi:Nat}{w:World}{c:List Value}{x:α}(h:Rep.rep lo hi w c x):All lo hi w c [x]:=⟨c,[],by simp,h,rfl⟩
theorem All.get{lo hi:Nat}{w:World}:∀{cs:List Value} {xs:List α} {i:Nat} (_:All lo hi w cs xs) (hi':i<xs.length),
  ∃pre c post,cs=pre++c++post/\pre.length=i*Rep.sz α/\Rep.rep lo hi w c xs[i]
 | _,x :: r,0,h,_=>by
   obtain⟨c,d,rfl,b,a⟩:=h;exact⟨[],c,d,by simp,by simp,b⟩
 | _,x :: r,i+1,h,hi'=>by
   obtain⟨c,d,rfl,b,a⟩:=h;obtain⟨pre,f,post,rfl,g,e⟩:=All.get a (i:=i) (by grind)
   grind[List.length_append,Rep.len,Nat.add_mul]
def SlR(lo hi:Nat)(w:World)(v:Value)(xs:List α):Prop :=
 ∃p cap,v=.slice p xs.length cap/\xs.length<=cap/\cap<=9223372036854775807 /\
  (xs=[]∨∃b o cs,p=some ⟨b,o,none⟩/\lo<=b/\b<hi/\At w b o cs/\All lo hi w cs xs)
theorem SlR.same{lo hi:Nat}{w w':World}{v:Value}{xs:List α}(h:SlR lo hi w v xs)(k:∀k,lo<=k->k<hi->k<w.heap.size->w'.heap[k]?=w.heap[k]?):SlR lo hi w' v xs:=by
 obtain⟨p,a,f,d,e,c⟩:=h;refine⟨p,a,f,d,e,?_⟩;rcases c with c | ⟨b,o,cs,hp,hlo,hhi,hat,hall⟩
 ·grind
 ·exact .inr ⟨b,o,cs,hp,hlo,hhi,hat.same (k b hlo hhi),hall.same k⟩
theorem SlR.wide{lo hi a c:Nat}{w:World}{v:Value}{xs:List α}(h:SlR lo hi w v xs)(f:a<=lo)(i:hi<=c):SlR a c w v xs:=by
 obtain⟨p,d,k,g,j,e⟩:=h;refine⟨p,d,k,g,j,?_⟩;rcases e with e | ⟨b,o,cs,hp,hlo,hhi,hat,hall⟩
 ·grind
 ·exact .inr ⟨b,o,cs,hp,by omega,by omega,hat,hall.wide f i⟩
instance:Rep (List α) where
 sz:=1
 pos:=Nat.one_pos
 rep lo hi w cs xs:=∃v,cs=[v]/\SlR lo hi w v xs
 len:=by grind
 same:=by rintro lo hi w w' cs x ⟨v,rfl,h⟩ k; exact⟨v,rfl,h.same k⟩
 wide:=by rintro lo hi lo' hi' w cs x ⟨v,rfl,h⟩ h1 h2; exact⟨v,rfl,h.wide h1 h2⟩
theorem Rep.up{lo hi:Nat}{w w':World}{cs:List Value}{x:α}(h:Rep.rep lo hi w cs x)(k:Ext w w'):Rep.rep lo hi w' cs x:=Rep.same h (fun i _ _ a=>k.block i a)
theorem Rep.below{lo hi B:Nat}{w w':World}{cs:List Value}{x:α}(h:Rep.rep lo hi w cs x)(k:Below B w w')(a:hi<=B):Rep.rep lo hi w' cs x:=Rep.same h (fun i _ b _=>k.block i (by omega))
theorem SlR.up{lo hi:Nat}{w w':World}{v:Value}{xs:List α}(h:SlR lo hi w v xs)(k:Ext w w'):SlR lo hi w' v xs:=h.same (fun i _ _ a=>k.block i a)
theorem SlR.below{lo hi B:Nat}{w w':World}{v:Value}{xs:List α}(h:SlR lo hi w v xs)(k:Below B w w')(a:hi<=B):SlR lo hi w' v xs:=h.same (fun i _ b _=>k.block i (by omega))
theorem SlR.len{lo hi:Nat}{w:World}{v:Value}{xs:List α}(h:SlR lo hi w v xs):∃p cap,v=.slice p xs.length cap:=by obtain⟨p,cap,a,_⟩:=h; grind
theorem SlR.le{lo hi:Nat}{w:World}{v:Value}{xs:List α}(h:SlR lo hi w v xs):xs.length<=9223372036854775807:=by obtain⟨p,a,d,b,c,_⟩:=h; omega
theorem SlR.nil{lo hi:Nat}{w:World}:SlR lo hi w (.slice none 0 0) ([]:List α):=⟨none,0,rfl,Nat.le_refl _,by omega,.inl rfl⟩
theorem SlR.get{lo hi:Nat}{w:World}{p:Option Addr}{a e:Nat}{xs:List α}(h:SlR lo hi w (.slice p a e) xs){i:Nat}(d:i<xs.length) :
  a=xs.length/\∃b o c,p=some ⟨b,o,none⟩/\lo<=b/\b<hi/\At w b (o+i*Rep.sz α) c/\Rep.rep lo hi w c xs[i]:=by
 obtain⟨r,f,k,q,s,g⟩:=h;simp only[Value.slice.injEq] at k;obtain⟨rfl,rfl,rfl⟩:=k;refine⟨rfl,?_⟩;rcases g with g | ⟨b,o,cs,hp,hlo,hhi,hat,hall⟩
 ·grind
 ·obtain⟨l,c,j,rfl,n,m⟩:=hall.get d;refine⟨b,o,c,hp,hlo,hhi,?_,m⟩;rw[<- n]; exact hat.mid
end
section
variable {P:Program} {n:Nat} {e:D1} {w:World} {Q:Exit->Act->World->Prop} {ops:Array Oper} {rest:List Oper}
 {d:Nat} {ty:TypeId} {pos:String} {after:Array Edge}
theorem XU{T E s y:Nat}{z:Value}{x ix:Operand}{b o c m k:Nat}{F:IntKind}[h:AM P T E][i:Info P E s y z](v:ev e x=some (.slice (some ⟨b,o,none⟩) c m))(hi:ev e ix=some (.int F (k:Int)))(V:k<c) :
  F6 P n e (.indexAddr T x ix) ty w (.pointer (some ⟨b,o+k*s,none⟩)) w:=by
 intro a u r l g q;obtain⟨t,d,G,H,Q⟩:=i.get;have f:(Addr.mk b o none).add (k*s)=⟨b,o+k*s,none⟩:=by
  unfold Addr.add;split
  ·grind
  ·rfl
 have j:0<=(k:Int)/\(k:Int) < (c:Int):=oo;simp only[execOp,q.ev v,q.ev hi];simp only[Instr.indexAt,asIntOf,Sem.run_bind,run_underlying h.h,Result.andThen,Sem.run_pure,j,and_self,if_true,X1 w d,G,Int.toNat_natCast,f]
variable {α:Type} [Rep α]
end
def B3(cs:List Value)(o:Nat)(vs:List Value):List Value:=cs.take o++vs++cs.drop (o+vs.length)
def ones:List Value->Bool
 | []=>true
 | v :: r=>v.oneCell'&&ones r
theorem q0p:∀{vs:List Value},ones vs=true->∀v∈vs,v.oneCell'=true
 | [],_,_,h=>by cases h
 | u :: r,h,v,hv=>by
   simp only[ones,ba] at h;rcases List.mem_cons.1 hv with rfl | hv
   ·grind
   ·exact q0p h.2 v hv
theorem XV(w:World)(g k:Nat)(cs:Array Value)(h:k≠g):(w.setRow g cs).heap[k]?=w.heap[k]?:=by
 grind[World.setRow]
theorem Sj(w:World)(g:Nat)(cs:Array Value):Wr g w (w.setRow g cs) :=
 ⟨rfl,rfl,rfl,by simp_all,fun k a=>XV w g k cs a⟩
def CP:List Value->Nat->Bool
 | [],0=>true
 | _ :: r,k+1=>CP r k
 | _,_=>false
theorem Kk:∀{vs:List Value} {k:Nat},CP vs k=true->vs.length=k
 | [],0,_=>rfl
 | _ :: r,k+1,h=>by simp[Kk (vs:=r) (k:=k) h]
 | [],_+1,h=>by cases h
 | _ :: _,0,h=>by cases h
section
variable {P:Program} {n:Nat} {e:D1} {w:World} {Q:Exit->Act->World->Prop} {ops:Array Oper} {rest:List Oper}
 {d:Nat} {ty:TypeId} {pos:String} {after:Array Edge}
theorem Sk{T T' s y:Nat}{z:Value}{b o:Nat}{cs vs:List Value}{v:Value}[i:Info P T s y z](e:v.cells.toList=vs)(f:vs.length=s)(l:ones vs=true)(j:Blk w b cs T')(h:o+vs.length<=cs.length) :
  (storeVar T ⟨b,o,none⟩ v).run P w=.ok () (w.setRow b (B3 cs o vs).toArray):=by
 obtain⟨c,a,g,n,m⟩:=i.get;have d:v.cells.size=c.size:=by rw[g,<- f,<- e]; simp
 have k:=run_storeCells_at (P:=P) b o T' vs 0 cs.toArray w j (by simpa using h) (q0p l);unfold storeVar;simp only[Sem.run_bind,X1 w a,Result.andThen,d,ne_eq,not_true_eq_false,if_false,e]
 grind[B3]
def Ca(place:List (Nat×Nat)):List Value->List (Nat×Value)->Option (List Value)
 | cs,[]=>some cs
 | cs,(i,v) :: r=>match place[i]? with
   | none=>none
   | some p=>bif CP v.cells.toList p.2&&Nat.ble (p.1+p.2) cs.length then Ca place (B3 cs p.1 v.cells.toList) r else none
theorem y0a(v:Value)(r cs:List Value)(o:Nat)(h:o+(r.length+1)<=cs.length):B3 cs o (v :: r)=B3 (cs.set o v) (o+1) r:=by
 obtain⟨A,C,c,rfl⟩:∃A C:List Value,A.length=o/\cs=A++C:=⟨cs.take o,cs.drop o,by grind,by simp⟩;subst c;cases C with
 | nil=>grind
 | cons x C =>
   simp only[B3,List.length_cons,List.set_append_right _ _ (Nat.le_refl _),Nat.sub_self,List.set_cons_zero];have b:List.take A.length (A++x :: C)=A:=by simp
   have e:List.take (A.length+1) (A++v :: C)=A++[v]:=by
    rw[List.take_append,List.take_of_length_le (by omega)]; simp
   have d:List.drop (A.length+(r.length+1)) (A++x :: C)=List.drop r.length C:=by
    rw[List.drop_append,List.drop_eq_nil_of_le (by omega)]; simp
   have a:List.drop (A.length+1+r.length) (A++v :: C)=List.drop r.length C:=by
    rw[show A.length+1+r.length=A.length+(r.length+1) by omega,List.drop_append,List.drop_eq_nil_of_le (by omega)]; simp
   rw[b,e,d,a]; simp
theorem n0q(a:Nat):∀(vs:List Value) (j:Nat) (cs:Array Value),a+j+vs.length<=cs.size ->
  ((vs.zipIdx j).foldl (fun cs (c,j)=>cs.setIfInBounds (a+j) c) cs).toList=B3 cs.toList (a+j) vs
 | [],j,cs,h=>by simp[B3]
 | v :: r,j,cs,h=>by
   simp only[List.zipIdx_cons,List.foldl_cons];rw[n0q a r (j+1) _ (by grind),y0a v r _ _ (by omega)]
   grind
theorem Sm(place:List (Nat×Nat)):∀(parts:List (Nat×Value)) (cs ds:List Value),Ca place cs parts=some ds->Instr.fill (fun i=>place[i]?) cs.toArray parts=some ds.toArray
 | [],cs,ds,h=>by simp only[Ca,oi] at h; subst h; rfl
 | (i,v) :: r,cs,ds,h=>by
   unfold Ca at h;split at h
   ·cases h
   ·rename_i p f;cases hb:(CP v.cells.toList p.2&&Nat.ble (p.1+p.2) cs.length) with
    | false=>grind
    | true =>
      rw[hb] at h;simp only[cond_true] at h;simp only[ba] at hb;have g:=Kk hb.1;have a:=Nat.le_of_ble_eq_true hb.2;have b:v.cells.size=p.2:=by rw[<- g]; simp
      have c:=Sm place r _ _ h;unfold Instr.fill;simp only[f];rw[if_neg (by simp[b,a])];have e:=n0q p.1 v.cells.toList 0 cs.toArray (by simp[b,a]);have d:Array.foldl (fun cs (x:Value×Nat)=>cs.setIfInBounds (p.1+x.2) x.1) cs.toArray v.cells.zipIdx=(B3 cs p.1 v.cells.toList).toArray:=by
       rw[<- Array.foldl_toList];apply Array.ext';simpa using e
      exact(congrArg (fun q=>Instr.fill (fun i=>place[i]?) q r) d).trans c
def Kl(P:Program)(T:TypeId):Option (List (Nat×Nat)):=match P.underlying T with
 | some (.struct fs)=>some (fs.toList.map fun f=>(f.offset,match P.info? f.type with | some i=>i.size | none=>0))
 | _=>none
def Of(P:Program)(T:TypeId):Bool:=match P.underlying T with
 | some (.struct fs)=>fs.toList.all fun f=>(P.info? f.type).isSome
 | _=>false
class r0v(P:Program)(T:TypeId)(pl:outParam (List (Nat×Nat))):Prop where
 h:Kl P T=some pl
 ok:Of P T=true
def evp(e:D1):List (Nat×Operand)->Option (List (Nat×Value))
 | []=>some []
 | (i,x) :: r=>match ev e x,evp e r with | some v,some vs=>some ((i,v) :: vs) | _,_=>none
theorem Agree.evp{a:Act}(h:Agree n e a):∀{xs:List (Nat×Operand)} {vs:List (Nat×Value)},evp e xs=some vs->xs.map (fun(i,x)=>(i,a.eval x))=vs
 | [],vs,hx=>by grind[Sv.evp]
 | (i,x) :: r,vs,hx=>by
   unfold Sv.evp at hx;split at hx
   ·rename_i v d c b;simp at hx; subst hx;simp[h.ev c,Agree.evp h b]
   grind
theorem m0I(w:World):∀(fs:List Field),(fs.all fun f=>(P.info? f.type).isSome)=true ->
  (fs.mapM (fun f=>do Pure.pure (f.offset,<- sizeOf f.type):Field->Sem (Nat×Nat))).run P w=.ok (fs.map fun f=>(f.offset,match P.info? f.type with | some i=>i.size | none=>0)) w
 | [],_=>rfl
 | f :: r,h=>by
   simp only[List.all_cons,ba,Option.isSome_iff_exists] at h;obtain⟨⟨i,hi⟩,a⟩:=h;rw[List.mapM_cons];simp only[Sem.run_bind,X1 w hi,Result.andThen,Sem.run_pure,m0I w r a,List.map_cons,hi]
theorem r0Z{T s y:Nat}{z:Value}{pl:List (Nat×Nat)}{b:List (Nat×Operand)}{vs:List (Nat×Value)}{cs:List Value}[i:Info P T s y z][p:r0v P T pl](u:evp e b=some vs)(V:Ca pl z.cells.toList vs=some cs) :
  F6 P n e (.build T b.toArray) ty w (.agg cs.toArray) w:=by
 intro a G t o g Q;obtain⟨F,c,W,X,v⟩:=i.get;have j:=p.h;have q:=p.ok;unfold Kl at j;unfold Of at q;split at j
 ·rename_i l d;rw[d] at q;simp only[oi] at j;have r:=m0I (P:=P) w l.toList q;rw[j] at r;have k:=Sm pl vs z.cells.toList cs V;have H:b.toArray.map (fun(i,x)=>(i,a.eval x))=vs.toArray:=by rw[<- Agree.evp Q u]; simp
  have m:(l.mapM (fun f=>do Pure.pure (f.offset,<- sizeOf f.type):Field->Sem (Nat×Nat))).run P w=.ok pl.toArray w:=by
   rw[Array.mapM_eq_mapM_toList];show(Functor.map List.toArray (List.mapM _ l.toList):Sem _).run P w=_;rw[map_eq_pure_bind,Sem.run_bind,r];rfl
  have E:(fun i:Nat=>pl.toArray[i]?)=(fun i:Nat=>pl[i]?):=by funext i; simp
  simp only[execOp,H];simp only[Instr.build,Sem.run_bind,Si w c v,Result.andThen,run_underlying d,m,E]
  simp_all
 grind
class Km(P:Program)(T:TypeId):Prop where h:P.underlying T=some .bool
theorem n0u(c:Nat){T:TypeId}{a b:Bool}[h:Km P T]:(Op.equalIn (c+1) T (.bool a) (.bool b)).run P w=.ok (a==b) w:=by simp[Op.equalIn,run_underlying h.h]
theorem y0o{T T':TypeId}{x y:Operand}{a b:Bool}[h:Km P T](i:ev e x=some (.bool a))(j:ev e y=some (.bool b)):F6 P n e (.binOp .eql T x y T') ty w (.bool (a==b)) w:=by
 intro m f l c g d;have k:(Op.equal T (.bool a) (.bool b)).run P w=.ok (a==b) w:=n0u 9999;simp only[execOp,d.ev i,d.ev j];simp[eqGuard,binOp,k,Result.andThen]
theorem y0m{T T':TypeId}{x y:Operand}{a b:Bool}[h:Km P T](i:ev e x=some (.bool a))(j:ev e y=some (.bool b)):F6 P n e (.binOp .neq T x y T') ty w (.bool (!(a==b))) w:=by
 intro m f l c g d;have k:(Op.equal T (.bool a) (.bool b)).run P w=.ok (a==b) w:=n0u 9999;simp only[execOp,d.ev i,d.ev j];simp[eqGuard,binOp,k,Result.andThen]
theorem XW(f g:Nat->Option (Nat×Nat)):∀(parts:List (Nat×Value)) (cs ds:Array Value),(∀i p,f i=some p->g i=some p)->Instr.fill f cs parts=some ds->Instr.fill g cs parts=some ds
 | [],_,_,_,h=>h
 | (i,v) :: r,cs,ds,hfg,h=>by
   unfold Instr.fill at h ⊢;cases hf:f i with
   | none=>grind
   | some p =>
     rw[hf] at h;rw[hfg i p hf];obtain⟨c,a⟩:=p;simp only at h ⊢;split at h
     ·cases h
     ·rename_i b; rw[if_neg b]; exact XW f g r _ _ hfg h
def P3:Nat->List Value->List Value
 | 0,_=>[]
 | k+1,z=>z++P3 k z
def F0(s:ByteArray)(k:Nat):Int:=((s.data.toList.getD k 0).toNat:Int)
theorem w0t(s:ByteArray)(k:Nat):0<=F0 s k:=by grind[F0]
theorem w0u(s:ByteArray)(k:Nat):F0 s k<=255:=by unfold F0; have:=(s.data.toList.getD k 0).toNat_lt; omega
theorem r0X{T:TypeId}{x ix:Operand}{s:ByteArray}{k:Nat}{o:IntKind}[h:Od P T](l:ev e x=some (.string s))(hi:ev e ix=some (.int o (k:Int)))(d:k<s.size) :
  F6 P n e (.index T x ix) ty w (.int .u8 (F0 s k)) w:=by
 intro a j q b g c;have i:0<=(k:Int):=by omega
 have f:s[k]?=some s[k]:=by simp[d]
 simp only[execOp,c.ev l,c.ev hi];simp only[Instr.index,asIntOf,Sem.run_bind,Sem.run_pure,Result.andThen,run_underlying h.h,i,if_true,Int.toNat_natCast,f];congr 3;have m:k<s.data.toList.length:=by simpa using d
 have:s[k]=s.data.toList[k]:=rfl
 grind[F0,List.getElem?_eq_getElem]
end
class Kn(P:Program)(T:TypeId)(α:Type)[Rep α]:Prop where
 op:∀{H:Type} {enc:TypeId×Value->H} {w:World} {sp:Nat->Bool} {hl:Bool} {fuel:Nat} {cs:List Value} {x:DataW H×List MemPlace},
  DataW.trod enc P w 0 sp hl fuel T cs=some x->∃y:α,Rep.rep 0 w.heap.size w cs y
class S0l(P:Program)(T:TypeId):Prop where h:P.underlying T=some (.int .i64)
class XX(P:Program)(T:TypeId):Prop where h:P.underlying T=some (.int .u8)
instance:Rep UInt8 where
 sz:=1
 pos:=Nat.one_pos
 rep _ _ _ cs x:=cs=[.int .u8 (x.toNat:Int)]
 len h:=by grind
 same h _:=h
 wide h _ _:=h
instance {P:Program}{T:TypeId}[hT:S0l P T]:Kn P T Int where
 op:=by
  intro H enc w sp hl fuel cs x h;obtain⟨n,rfl,_,hw⟩:=DataW.trod_int hT.h h;refine⟨n,rfl,?_⟩;simp only[Lit.wf,ba,dq] at hw;have h1:IntKind.i64.min = -9223372036854775808:=rfl;have h2:IntKind.i64.max=9223372036854775807:=rfl;rw[h1,h2] at hw;exact hw
instance {P:Program}{T:TypeId}[hT:XX P T]:Kn P T UInt8 where
 op:=by
  intro H enc w sp hl fuel cs x h;obtain⟨n,rfl,_,hw⟩:=DataW.trod_int hT.h h;simp only[Lit.wf,ba,dq] at hw;have h1:IntKind.u8.min=0:=rfl;have h2:IntKind.u8.max=255:=rfl;rw[h1,h2] at hw;refine⟨UInt8.ofNat n.toNat,?_⟩;show [Value.int .u8 n]=[Value.int .u8 _];have:(UInt8.ofNat n.toNat).toNat=n.toNat:=by simp; omega
  grind
instance {P:Program}{T:TypeId}[hT:Km P T]:Kn P T Bool where
 op:=by
  intro H enc w sp hl fuel cs x h;obtain⟨b,rfl,_⟩:=DataW.trod_bool hT.h h;exact⟨b,rfl⟩
instance {P:Program}{T:TypeId}[hT:Od P T]:Kn P T ByteArray where
 op:=by
  intro H enc w sp hl fuel cs x h;obtain⟨s,rfl,_,hs⟩:=DataW.trod_string hT.h h;exact⟨s,rfl,by grind[maxLen]⟩
theorem Ko{w:World}{base:Nat}{a:Addr}{n:Nat}{cs:List Value}(f:0<n)(h:w.cells? base a n=some cs):a=⟨a.block,a.off,none⟩/\cs.length=n/\At w a.block a.off cs:=by
 obtain⟨_,d,j⟩:=World.cells?_some h;obtain⟨b,o,sp⟩:=a;have c:sp=none:=by
  have e:=j 0 f;have g:(Addr.mk b o sp).add 0=⟨b,o,sp⟩:=by simp[Addr.add]
  rw[g,List.getElem?_eq_getElem (by omega)] at e;cases sp with
  | none=>rfl
  | some q =>
    grind[World.cell?]
 subst c;refine⟨rfl,d,fun i u k=>?_⟩
 grind[Nat.lt_or_ge,List.getElem?_eq_none,Addr.add]
theorem At.app{w:World}{b o:Nat}{cs ds:List Value}(h:At w b o cs)(k:At w b (o+cs.length) ds):At w b o (cs++ds):=by
 intro i u a;rcases Nat.lt_or_ge i cs.length with hi | hi
 ·rw[List.getElem?_append_left hi] at a; exact h i u a
 ·rw[List.getElem?_append_right hi] at a;have:=k (i-cs.length) u a
  grind
theorem Sn{w:World}{b o:Nat}:At w b o []:=fun i u a=>by grind
instance {P:Program}{T E:TypeId}{α:Type}[Rep α][hT:AM P T E][hE:Kn P E α]:Kn P T (List α) where
 op:=by
  intro H enc w sp hl fuel cs x h;rcases DataW.trod_slice hT.h h with ⟨rfl,_⟩ | ⟨a,len,cap,elems,rest,n,rfl,rfl,_,_,hlc,hcm,hel,hat,_,_⟩
  ·exact⟨[],_,rfl,SlR.nil⟩
  ·have hcap:cap<=9223372036854775807:=by unfold maxLen at hcm; omega
   -- each element's cells and what they read as
   have each:∀i,i<len->∃c:List Value,w.cells? 0 (a.add (i*P.cellsOf E)) (P.cellsOf E)=some c/\∃y:α,Rep.rep 0 w.heap.size w c y:=by
    intro i hi;have hi':=hat i hi;rw[List.getElem?_eq_getElem (by omega)] at hi';cases hc:w.cells? 0 (a.add (i*P.cellsOf E)) (P.cellsOf E) with
    | none=>rw[hc] at hi'; cases hi'
    | some c =>
      rw[hc] at hi';simp only[Option.bind_some] at hi';exact⟨c,rfl,hE.op hi'⟩
   by_cases h0:len=0
   ·subst h0;exact⟨[],_,rfl,some a,cap,rfl,Nat.zero_le _,hcap,.inl rfl⟩
   ·have hs:P.cellsOf E=Rep.sz α:=by
     obtain⟨c,hc,y,hy⟩:=each 0 (by omega);have:=(World.cells?_some hc).2.1;rw[<- this]; exact Rep.len hy
    have hsp:0<P.cellsOf E:=by rw[hs]; exact Rep.pos
    obtain⟨b,o,rfl⟩:∃b o,a=⟨b,o,none⟩:=by
     obtain⟨c,hc,_⟩:=each 0 (by omega);have e0:a.add (0*P.cellsOf E)=a:=by simp[Addr.add]
     rw[e0] at hc;exact⟨a.block,a.off,(Ko hsp hc).1⟩
    have hb:b<w.heap.size:=by
     obtain⟨c,hc,_⟩:=each 0 (by omega);have e0:(Addr.mk b o none).add (0*P.cellsOf E)=⟨b,o,none⟩:=by simp[Addr.add]
     rw[e0] at hc;have h1:=Ko hsp hc;exact h1.2.2.lt (by rw[h1.2.1]; exact hsp)
    have build:∀k,k<=len->∃(cs:List Value) (xs:List α),xs.length=k/\At w b o cs/\All 0 w.heap.size w cs xs:=by
     intro k
     induction k with
     | zero=>exact fun _=>⟨[],[],rfl,Sn,rfl⟩
     | succ k ih =>
       intro hk;obtain⟨cs,xs,h1,h2,h3⟩:=ih (by omega);obtain⟨c,hc,y,hy⟩:=each k (by omega);have hadd:(Addr.mk b o none).add (k*P.cellsOf E)=⟨b,o+k*P.cellsOf E,none⟩:=by
        unfold Addr.add;split
        ·rename_i h0; rw[h0]; rfl
        ·rfl
       rw[hadd] at hc;have h4:=(Ko hsp hc).2.2;refine⟨cs++c,xs++[y],by simp[h1],h2.app ?_,All.app (All.one hy) h3⟩;have:cs.length=k*P.cellsOf E:=by rw[h3.len,h1,hs]
       rw[this]; exact h4
    obtain⟨cs,xs,h1,h2,h3⟩:=build len (Nat.le_refl _);subst h1;exact⟨xs,_,rfl,some ⟨b,o,none⟩,cap,rfl,hlc,hcap,.inr ⟨b,o,cs,rfl,Nat.zero_le _,hb,h2,h3⟩⟩
theorem m0T{P:Program}{T:TypeId}{H:Type}{enc:TypeId×Value->H}{w:World}{sp:Nat->Bool}{b:Bool}{a:Nat}{cs:List Value}{x:DataW H×List MemPlace}{c:Array Field}
  (d:P.underlying T=some (.struct c)) (h:DataW.trod enc P w 0 sp b a T cs=some x) :
  cs.length=P.cellsOf T/\∀(i:Nat) (f:Field),c[i]?=some f->∃n y,DataW.trod enc P w 0 sp b n f.type ((cs.drop f.offset).take (P.cellsOf f.type))=some y:=by
 obtain⟨k,n,_,_,g,e,j⟩:=DataW.trod_struct d h
 grind
theorem f0B{H:Type}{enc:TypeId×Value->H}{P:Program}(c:laidOutB P=true){W g:World}(e:Below W.heap.size W g) :
  ∀{ts:List TypeId} {vs:List Value} {ds:List (DataW H)} {ps:List MemPlace},(ts.all fun t=>P.readableRec t&&decide (t<P.types.size))=true ->
   DataW.TrodAll enc P W 0 (fun _=>true) true ts vs ds ps->DataW.TrodAll enc P g 0 (fun b=>decide (b<W.heap.size)) true ts vs ds ps
 | [],[],[],_,_,h=>h
 | t :: ts,v :: vs,d :: ds,ps,hr,h=>by
   obtain⟨p,q,i,j,rfl⟩:=h;simp only[List.all_cons,ba,dq] at hr;have a:∀x∈p,x.block<W.heap.size:=by
    obtain⟨f,k⟩:=i;exact DataW.trod_lt f t _ _ k
   exact⟨p,q,Below.trod c hr.1.1 hr.1.2 i e a,f0B c e (by grind) j,rfl⟩
 | [],[],_ :: _,_,_,h=>h.elim
 | [],_ :: _,_,_,_,h=>h.elim
 | _ :: _,[],_,_,_,h=>h.elim
 | _ :: _,_ :: _,[],_,_,h=>h.elim
section
variable {P:Program} {n:Nat} {e:D1} {w w0:World} {Q:Exit->Act->World->Prop} {l:List Oper} {fuel:Nat} {listed:Array Bool}
 {d:Nat} {op:Op} {ty:TypeId} {pos:String} {after:Array Edge}
end
section
variable {P:Program} {n:Nat} {e:D1} {w:World} {Q:Exit->Act->World->Prop} {ops:Array Oper} {rest:List Oper}
 {d:Nat} {ty:TypeId} {pos:String} {after:Array Edge}
theorem u0k{a b:Int}(g:R6 a)(d:0<b) : -9223372036854775808<=a.tdiv b/\a.tdiv b<=9223372036854775807:=by
 unfold R6 at g;rcases Int.le_total 0 a with c | c
 ·have e:=Int.tdiv_nonneg c (Int.le_of_lt d);have h:(a.tdiv b).natAbs=a.natAbs / b.natAbs:=Int.natAbs_tdiv a b;have f:=Nat.div_le_self a.natAbs b.natAbs;omega
 ·have e:=Int.tdiv_nonneg (show 0 <= -a by omega) (Int.le_of_lt d);rw[Int.neg_tdiv] at e;have h:(a.tdiv b).natAbs=a.natAbs / b.natAbs:=Int.natAbs_tdiv a b;have f:=Nat.div_le_self a.natAbs b.natAbs;omega
theorem y0k{T T':TypeId}{x y:Operand}{a b:Int}(k:ev e x=some (.int .i64 a))(l:ev e y=some (.int .i64 b))(c:R6 a)(h:0<b) :
  F6 P n e (.binOp .quo T x y T') ty w (.int .i64 (a.tdiv b)) w:=by
 intro o j m d g f;have i:¬b=0:=by omega
 simp only[execOp,f.ev k,f.ev l];simp[eqGuard,binOp,Op.intDiv,i,IntWalk.i64_in _ (u0k c h)]
theorem y0j{T T':TypeId}{x y:Operand}{a b:Int}(i:ev e x=some (.int .i64 a))(j:ev e y=some (.int .i64 b))(f:b≠0) :
  F6 P n e (.binOp .rem T x y T') ty w (.int .i64 (a.tmod b)) w:=by
 intro l h k c g d;simp only[execOp,d.ev i,d.ev j];simp[eqGuard,binOp,Op.intDiv,f]
theorem y0l{T:TypeId}{x:Operand}{a:Int}(d:ev e x=some (.int .i64 a))(f : -9223372036854775808 <= -a /\ -a<=9223372036854775807) :
  F6 P n e (.unOp .neg T x) ty w (.int .i64 (-a)) w:=by
 intro j c i b g h;simp only[execOp,h.ev d];simp[Op.unary,Op.intArith,IntWalk.i64_in _ f]
theorem r0V{T T' E:TypeId}{x:Operand}{b o a m:Nat}{c:List Int}[r:AM P T E][f:XX P E][t:Od P T'](q:ev e x=some (.slice (some ⟨b,o,none⟩) m a))(j:c.length=m)(l:At w b o (c.map (Value.int .u8))) :
  F6 P n e (.convert T T' x) ty w (.string (strOfNums c)) w:=by
 intro v k u d g s;have h:=run_convert_bytes_arg (P:=P) w T E r.h f.h b o m a c j (fun i hi=>l i _ (by grind)) T' t.h;simp only[execOp,s.ev q]
 simp_all
theorem q0i(z:List Value):∀k,(P3 k z).length=k*z.length
 | 0=>by simp[P3]
 | k+1=>by rw[P3,List.length_append,q0i z k,Nat.add_mul]; omega
theorem q0j(z:List Value):∀(k j:Nat),j<k*z.length->(P3 k z)[j]?=z[j % z.length]?
 | 0,j,h=>by omega
 | k+1,j,h=>by
   have b:j<k*z.length+z.length:=by rwa [Nat.add_mul,Nat.one_mul] at h
   rw[P3];rcases Nat.lt_or_ge j z.length with a | a
   ·rw[List.getElem?_append_left a,Nat.mod_eq_of_lt a]
   ·rw[List.getElem?_append_right a,q0j z k (j-z.length) (by omega)]
    grind[Nat.mod_eq_sub_mod]
theorem j0t(z:Array Value)(k:Nat)(hz:0<z.size):madeCells z (k*z.size)=(P3 k z.toList).toArray:=by
 apply Array.ext';apply List.ext_getElem?;intro j;unfold madeCells;by_cases b:j<k*z.size
 ·have a:j % z.size<z.size:=Nat.mod_lt _ hz;rw[show(P3 k z.toList).toArray.toList=P3 k z.toList by simp,q0j z.toList k j (by omega)]
  grind
 grind[List.getElem?_eq_none,q0i]
theorem m0H{T E s y:Nat}{z:Value}{x q:Operand}{m:Nat}{zs:List Value}[Y:AM P T E][i:Info P E s y z](H:ev e x=some (.int .i64 (m:Int)))(j:ev e q=some (.int .i64 (m:Int)))(hz:z.cells.toList=zs)(F:CP zs s=true)(Q:Nat.blt 0 s=true)
  (hm:m*y<=281474976710656) (V:m<=9223372036854775807) :
  F6 P n e (.makeSlice T x q) ty w (.slice (some ⟨w.heap.size,0,none⟩) m m) (w.alloc (.cells (P3 m zs).toArray E)):=by
 intro a X v k g r;obtain⟨c,b,t,u,W⟩:=i.get;subst hz;have l:=Kk F;have d:z.cells.size=s:=by simpa using l
 have G:(c.bytes:Int)*(m:Int)<=281474976710656:=by
  have h:((c.bytes*m:Nat):Int)<=281474976710656:=by rw[u,Nat.mul_comm]; omega
  rwa [Int.natCast_mul] at h
 have h:=run_make (P:=P) w T E c z Y.h b W .i64 .i64 m m (by omega) (Int.le_refl _) G (by omega);simp only[Int.toNat_natCast] at h;have f:0<z.cells.size:=by rw[d]; simpa using Q
 have o:=j0t z.cells m f;rw[t] at h;rw[d] at o;rw[o] at h;simp only[execOp,r.ev H,r.ev j]
 simp_all
variable {w0:World} {l:List Oper} {fuel:Nat} {listed:Array Bool}
end
structure WE(g:Option Nat)(w w':World):Prop where
 os:w'.os=w.os
 tape:w'.tape=w.tape
 output:w'.output=w.output
 size:w.heap.size<=w'.heap.size
 block:∀k,k<w.heap.size->g≠some k->w'.heap[k]?=w.heap[k]?
theorem WE.of_ext{g:Option Nat}{w w':World}(h:Ext w w'):WE g w w':=⟨h.os,h.tape,h.output,h.size,fun k a _=>h.block k a⟩
theorem WE.of_wr{b:Nat}{w w':World}(h:Wr b w w'):WE (some b) w w':=⟨h.os,h.tape,h.output,by rw[h.size]; exact Nat.le_refl _,fun k _ a=>h.block k (fun c=>a (by rw[c]))⟩
theorem WE.refl{g:Option Nat}(w:World):WE g w w:=⟨rfl,rfl,rfl,Nat.le_refl _,fun _ _ _=>rfl⟩
theorem WE.trans{g:Option Nat}{a b c:World}(h:WE g a b)(k:WE g b c):WE g a c :=
 ⟨k.os.trans h.os,k.tape.trans h.tape,k.output.trans h.output,Nat.le_trans h.size k.size,fun i hi d=>(k.block i (Nat.lt_of_lt_of_le hi h.size) d).trans (h.block i hi d)⟩
theorem WE.below{g:Option Nat}{w w':World}{B:Nat}(h:WE g w w')(c:∀k,g=some k->B<=k)(a:B<=w.heap.size):Below B w w' :=
 ⟨h.os,h.tape,h.output,h.size,fun k b=>h.block k (by omega) (fun e=>by grind)⟩
theorem WE.ext{w w':World}(h:WE none w w'):Ext w w':=h.below (fun _ e=>by cases e) (Nat.le_refl _)
theorem Blk.we{g:Option Nat}{w w':World}{b:Nat}{cs:List Value}{T:TypeId}(h:Blk w b cs T)(k:WE g w w')(a:∀i,g=some i->b≠i):Blk w' b cs T:=by
 unfold Blk; rw[k.block b h.lt (fun e=>a b e rfl)]; exact h
theorem At.we{g:Option Nat}{w w':World}{b o:Nat}{cs:List Value}(h:At w b o cs)(k:WE g w w')(c:∀i,g=some i->b≠i):At w' b o cs:=h.same (fun a=>k.block b a (fun e=>c b e rfl))
theorem SlR.we{a:Type}[Rep a]{g:Option Nat}{lo hi:Nat}{w w':World}{v:Value}{xs:List a}(h:SlR lo hi w v xs)(k:WE g w w')(d:∀i,g=some i->i<lo∨hi<=i):SlR lo hi w' v xs :=
 h.same (fun i f c b=>k.block i b (fun e=>by grind))
theorem Rep.rep.we{a:Type}[Rep a]{g:Option Nat}{lo hi:Nat}{w w':World}{cs:List Value}{x:a}(h:Rep.rep lo hi w cs x)(k:WE g w w')(d:∀i,g=some i->i<lo∨hi<=i):Rep.rep lo hi w' cs x :=
 Rep.same h (fun i f c b=>k.block i b (fun e=>by grind))
theorem Rep.rep.up{a:Type}[Rep a]{lo hi:Nat}{w w':World}{cs:List Value}{x:a}(h:Rep.rep lo hi w cs x)(k:Ext w w'):Rep.rep lo hi w' cs x:=Rep.up h k
theorem Rep.rep.wide{c:Type}[Rep c]{lo hi a b:Nat}{w:World}{cs:List Value}{x:c}(h:Rep.rep lo hi w cs x)(e:a<=lo)(d:hi<=b):Rep.rep a b w cs x:=Rep.wide h e d
def Own(w:World)(E:TypeId)(s:Nat)(g:Option Nat)(v:Value)(n:Nat)(cs:List Value):Prop :=
 (g=none/\n=0/\cs=[]/\∃p,v=.slice p 0 0) ∨
 ∃b o cap cur,g=some b/\v=.slice (some ⟨b,o,none⟩) n cap/\w.heap[b]?=some (.cells cur E (0,0))/\n<=cap/\cap<=maxLen/\cur.size=o+cap*s/\(cur.toList.drop o).take (n*s)=cs
theorem Own.nil{w:World}{E s:Nat}{p:Option Addr}:Own w E s none (.slice p 0 0) 0 []:=.inl ⟨rfl,rfl,rfl,p,rfl⟩
theorem Own.len{w:World}{E:TypeId}{s:Nat}{g:Option Nat}{v:Value}{n:Nat}{cs:List Value}(h:Own w E s g v n cs):∃p c,v=.slice p n c:=by
 rcases h with ⟨_,rfl,_,p,rfl⟩ | ⟨b,o,cap,cur,_,rfl,_⟩
 ·grind
 grind
theorem Own.clen{w:World}{E:TypeId}{s:Nat}{g:Option Nat}{v:Value}{n:Nat}{cs:List Value}(h:Own w E s g v n cs):cs.length=n*s:=by
 rcases h with ⟨_,rfl,rfl,_⟩ | ⟨b,o,cap,cur,_,rfl,_,h2,_,h4,rfl⟩
 ·simp
 simp_all
theorem Own.lt{w:World}{E:TypeId}{s:Nat}{g:Option Nat}{v:Value}{n:Nat}{cs:List Value}(h:Own w E s g v n cs):∀k,g=some k->k<w.heap.size:=by
 intro k a;rcases h with ⟨rfl,_⟩ | ⟨b,o,cap,cur,rfl,rfl,h1,_⟩
 ·cases a
 grind
theorem Own.we{g':Option Nat}{w w':World}{E:TypeId}{s:Nat}{g:Option Nat}{v:Value}{n:Nat}{cs:List Value}(h:Own w E s g v n cs)(k:WE g' w w')(c:∀i,g'=some i->g≠some i):Own w' E s g v n cs:=by
 have a:=h.lt;rcases h with h | ⟨b,o,cap,cur,rfl,rfl,h1,h2⟩
 ·exact .inl h
 ·refine .inr ⟨b,o,cap,cur,rfl,rfl,?_,h2⟩;rw[k.block b (a b rfl) (fun e=>c b e rfl)]; exact h1
theorem Own.up{w w':World}{E:TypeId}{s:Nat}{g:Option Nat}{v:Value}{n:Nat}{cs:List Value}(h:Own w E s g v n cs)(k:Ext w w'):Own w' E s g v n cs:=h.we (g':=none) (WE.of_ext k) (fun _ e=>by cases e)
theorem Own.at{w:World}{E:TypeId}{s:Nat}{b n:Nat}{v:Value}{cs:List Value}(h:Own w E s (some b) v n cs):∃o cap,v=.slice (some ⟨b,o,none⟩) n cap/\At w b o cs:=by
 rcases h with ⟨h,_⟩ | ⟨b',o,cap,cur,hb,rfl,h1,h2,h3,h4,rfl⟩
 ·cases h
 ·cases hb;refine⟨o,cap,rfl,fun i u a=>?_⟩;unfold World.cell?
  grind
section
variable {P:Program} {n:Nat} {e:D1} {w:World} {Q:Exit->Act->World->Prop} {ops:Array Oper} {rest:List Oper}
 {d:Nat} {ty:TypeId} {pos:String} {after:Array Edge}
theorem u0J{T E s y:Nat}{z:Value}[Y:AM P T E][i:Info P E s y z](_:0<s)(hz:z.cells.size=s){g:Option Nat}{v:Value}{a m c G F:Nat}{p2:Option Addr}{cs d:List Value}(h:Own w E s g v a cs)
  (hp:m=0∨p2=some ⟨G,F,none⟩) (hl:d.length=m*s) (hA:At w G F d) (h1:∀u∈d,u.oneCell'=true) (aH:a+m<=9223372036854775807) (hb:(a+m)*y<=140737488355328) :
  ∃v' w' g',(Builtin.append_ #[T,T] ty #[v,.slice p2 m c]).run P w=.ok v' w'/\Own w' E s g' v' (a+m) (cs++d)/\WE g w w'/\(g'=g∨g'=some w.heap.size):=by
 obtain⟨x,l,h2,h3,h4⟩:=i.get;by_cases hm:m=0
 ·subst hm;have hn:d=[]:=List.eq_nil_of_length_eq_zero (by omega);subst hn;have W:∃p f,v=.slice p a f/\a<=f:=by
   rcases h with ⟨_,rfl,_,p,rfl⟩ | ⟨b,o,f,cur,_,rfl,_,h2,_⟩
   ·grind
   ·grind
  obtain⟨p,f,rfl,aF⟩:=W;refine⟨_,w,g,?_,by simpa using h,WE.refl _,.inl rfl⟩;cases p <;> cases p2 <;> simp[Builtin.append_,run_underlying Y.h,sizeOf,typeInfo,l,Builtin.lenOf,Builtin.firstCells,loadCells,loadCellsFrom,storeCells,aF]
 ·rcases hp with hp | rfl
  ·exact(hm hp).elim
  have n:∀j u,d[j]?=some u->w.cell? ((⟨G,F,none⟩:Addr).add j)=some u:=fun j u hj=>by
   have t:(Addr.mk G F none).add j=⟨G,F+j,none⟩:=by unfold Addr.add; split <;> simp_all
   rw[t]; exact hA j u hj
  have aA:m*x.bytes<=140737488355328:=by
   rw[h3];exact Nat.le_trans (Nat.mul_le_mul_right y (Nat.le_add_left m a)) hb
  have V:∀q,Own (w.drew.alloc (.cells (cs.toArray++d.toArray++Builtin.zeroCells z.cells (grownCap w (a+m) q E-(a+m))) E)) E s (some w.heap.size) (.slice (some ⟨w.heap.size,0,none⟩) (a+m) (grownCap w (a+m) q E)) (a+m) (cs++d):=fun q=>by
   have aC:=grownCap_ge w (a+m) q E;have Q:=h.clen;refine .inr ⟨w.heap.size,0,_,_,rfl,rfl,_root_.Go.heap_alloc_new w.drew _,aC,grownCap_le_maxLen w (a+m) q E (by grind[maxLen]),?_,?_⟩
   ·simp only[Array.size_append,List.size_toArray,size_zeroCells,hz,hl,Q,<- Nat.add_mul,Nat.zero_add]
    grind
   grind[Array.toList_append,List.length_append,Nat.add_mul,List.take_left]
  have aD:∀(g:Option Nat) q,WE g w (w.drew.alloc (.cells (cs.toArray++d.toArray++Builtin.zeroCells z.cells (grownCap w (a+m) q E-(a+m))) E)):=fun g q=>⟨rfl,rfl,rfl,by simp,fun k hk _=>_root_.Go.heap_alloc_old w.drew _ hk⟩;have Q:=h.clen;rcases h with ⟨rfl,rfl,rfl,p,rfl⟩ | ⟨b,o,f,cur,rfl,rfl,g1,g2,g3,g4,g5⟩
  ·have g:=V 0;have hw:=aD none 0;simp only[Nat.zero_add,List.nil_append,Array.empty_append] at g hw;cases p with
   | none =>
     have H:=run_append_nil (P:=P) w T ty E x z Y.h l h4 ⟨G,F,none⟩ m c d (by grind) n (by omega) (by omega) (by omega);exact⟨_,_,_,H,by simpa using g,hw,.inr rfl⟩
   | some a0 =>
     have H:=run_append_grow (P:=P) w T ty E x z Y.h l h4 a0 0 0 [] (by simp) (fun j v hj=>by grind) ⟨G,F,none⟩ m c d (by grind) n (by omega) (by omega) (growslice_fits (by omega) (by grind));simp only[Nat.zero_add,Array.empty_append] at H;exact⟨_,_,_,H,by simpa using g,hw,.inr rfl⟩
  ·by_cases r:a+m<=f
   ·have aG:o+a*s+d.length<=cur.size:=by
     have:=Nat.mul_le_mul_right s r;rw[Nat.add_mul] at this;rw[hl,g4]; omega
    have hf:=run_firstCells_some (P:=P) w x.size m ⟨G,F,none⟩ m c d (by grind) n;have X:=run_storeCells_at P b (o+a*s) E d 0 cur w g1 (by omega) h1;simp only[Nat.add_zero] at X;have H:(Builtin.append_ #[T,T] ty #[.slice (some ⟨b,o,none⟩) a f,.slice (some ⟨G,F,none⟩) m c]).run P w=.ok (.slice (some ⟨b,o,none⟩) (a+m) f) (w.setRow b (cur.toList.take (o+a*s)++d++cur.toList.drop (o+a*s+d.length)).toArray):=by
     rw[h2] at hf;simp[Builtin.append_,run_underlying Y.h,sizeOf,typeInfo,l,Builtin.lenOf,r,hf,Addr.add_lit,X,h2]
    refine⟨_,_,some b,H,.inr ⟨b,o,f,_,rfl,rfl,setRow_heap w b cur _ E _ g1,r,g3,?_,?_⟩,⟨rfl,rfl,rfl,by simp[World.setRow],fun k _ hk=>XV w b k _ (fun e=>hk (by rw[e]))⟩,.inl rfl⟩
    ·simp only[List.size_toArray,List.length_append,List.length_take,List.length_drop,Array.length_toList];omega
    ·show(List.drop o (cur.toList.take (o+a*s)++d++cur.toList.drop (o+a*s+d.length))).take ((a+m)*s)=cs++d;have e1:(cur.toList.take (o+a*s)).length=o+a*s:=by rw[List.length_take,Array.length_toList]; omega
     rw[List.append_assoc,List.drop_append_of_le_length (by omega),List.drop_take,show o+a*s-o=a*s by omega,g5,<- List.append_assoc];rw[show(a+m)*s=(cs++d).length by rw[List.length_append,Q,hl,Nat.add_mul]];exact List.take_left
   ·have Wg:∀j u,cs[j]?=some u->w.cell? ((⟨b,o,none⟩:Addr).add j)=some u:=fun j u hu=>by
     have t:(Addr.mk b o none).add j=⟨b,o+j,none⟩:=by unfold Addr.add; split <;> simp_all
     rw[t];obtain⟨o0,c0,e0,aB⟩:=Own.at (.inr ⟨b,o,f,cur,rfl,rfl,g1,g2,g3,g4,g5⟩:Own w E s (some b) (.slice (some ⟨b,o,none⟩) a f) a cs);cases e0;exact aB j u hu
    have H:=run_append_grow (P:=P) w T ty E x z Y.h l h4 ⟨b,o,none⟩ a f cs (by grind) Wg ⟨G,F,none⟩ m c d (by grind) n (by omega) (by omega) (growslice_fits (by omega) (by grind))
    grind
theorem k0U{x:Operand}{c:Addr}(f:ev e x=some (.pointer (some c))):F6 P n e (.nilCheck x) ty w (.pointer (some c)) w:=by
 intro a d i b g h;simp only[execOp,h.ev f];simp
end
end Go.Proofs.Sv
end
section
namespace Go.Proofs.Xv
open Go Go.RowKit Go.Proofs.Sv
inductive Ty
 | int (k:IntKind) | bool | str | sl (e:Ty) | pt (e:Ty) | pr (a b:Ty)
 deriving DecidableEq
@[reducible] def j7:Ty->Type
  | .int _=>Int
  | .bool=>Bool
  | .str=>ByteArray
  | .sl e=>List (j7 e)
  | .pt e=>j7 e
  | .pr a b=>j7 a×j7 b
def sz:Ty->Nat
 | .pr a b=>sz a+sz b
 | _=>1
theorem So:∀t,0<sz t
 | .int _ | .bool | .str | .sl _ | .pt _=>Nat.one_pos
 | .pr a b=>by have:=So a; grind[sz]
def b7:(t:Ty)->j7 t
 | .int _=>(0:Int)
 | .bool=>false
 | .str=>(⟨#[]⟩:ByteArray)
 | .sl _=>[]
 | .pt e=>b7 e
 | .pr a b=>(b7 a,b7 b)
def lo:IntKind->Int
 | .i8 => -128 | .i16 => -32768 | .i32 => -2147483648 | .i64 => -9223372036854775808 | _=>0
def hi:IntKind->Int
 | .i8=>127 | .i16=>32767 | .i32=>2147483647 | .i64=>9223372036854775807 | .u8=>255 | .u16=>65535 | .u32=>4294967295 | .u64=>18446744073709551615
def wf:(t:Ty)->j7 t->Prop
 | .int k,x=>lo k<=x/\x<=hi k
 | .bool,_=>True
 | .str,s=>s.size<=9223372036854775807
 | .sl e,xs=>xs.length<=9223372036854775807/\∀x∈xs,wf e x
 | .pt e,x=>wf e x
 | .pr a b,x=>wf a x.1/\wf b x.2
def UF(w:World)(k:Nat):Prop:=∃c T,w.heap[k]?=some (.cells c T (0,0))
theorem UF.lt{w:World}{k:Nat}(h:UF w k):k<w.heap.size:=by
 obtain⟨c,T,h⟩:=h
 grind
theorem UF.same{w w':World}{k:Nat}(h:UF w k)(e:w'.heap[k]?=w.heap[k]?):UF w' k:=by
 obtain⟨c,T,h⟩:=h;exact⟨c,T,e.trans h⟩
def UFg(w:World)(n k:Nat):Prop:=k<w.heap.size/\(n<=k->UF w k)
theorem UFg.lt{w:World}{n k:Nat}(h:UFg w n k):k<w.heap.size:=h.1
theorem UFg.same{w w':World}{n k:Nat}(h:UFg w n k)(b:w.heap.size<=w'.heap.size)(e:w'.heap[k]?=w.heap[k]?):UFg w' n k:=⟨Nat.lt_of_lt_of_le h.1 b,fun a=>(h.2 a).same e⟩
theorem UF.g{w:World}{n k:Nat}(h:UF w k):UFg w n k:=⟨h.lt,fun _=>h⟩
theorem Ge{w:World}{E s:Nat}{b:Nat}{v:Value}{n:Nat}{cs:List Value}(h:Own w E s (some b) v n cs):UF w b:=by
 rcases h with ⟨h,_⟩ | ⟨b',o,cap,cur,hb,_,h,_⟩
 ·cases h
 ·cases hb; exact⟨_,_,h⟩
theorem XY{w:World}{b:Nat}{cs:List Value}{T:TypeId}(h:Blk w b cs T):UF w b:=⟨_,_,h⟩
def AllR{α:Type}(R:List Value->α->Prop):List Value->List α->Prop
 | cs,[]=>cs=[]
 | cs,x :: r=>∃c d,cs=c++d/\R c x/\AllR R d r
def RT(K:Nat->Prop)(w:World):(t:Ty)->List Value->j7 t->Prop
 | .int k,cs,x=>cs=[.int k x]/\(lo k<=x/\x<=hi k)
 | .bool,cs,x=>cs=[.bool x]
 | .str,cs,s=>cs=[.string s]/\s.size<=9223372036854775807
 | .sl e,cs,xs=>∃p cap,cs=[.slice p xs.length cap]/\xs.length<=cap/\cap<=9223372036854775807 /\
    (xs=[]∨∃b o ds,p=some ⟨b,o,none⟩/\K b/\At w b o ds/\AllR (RT K w e) ds xs)
 | .pt e,cs,x=>∃b o ds,cs=[.pointer (some ⟨b,o,none⟩)]/\K b/\At w b o ds/\RT K w e ds x
 | .pr a b,cs,x=>∃c d,cs=c++d/\RT K w a c x.1/\RT K w b d x.2
theorem AllR.mapR{a:Type}{R R':List Value->a->Prop}(h:∀c x,R c x->R' c x):∀{cs:List Value} {xs:List a},AllR R cs xs->AllR R' cs xs
 | _,[],k=>k
 | _,_ :: _,⟨c,d,e,k1,k2⟩=>⟨c,d,e,h _ _ k1,AllR.mapR h k2⟩
theorem AllR.mem{a:Type}{R:List Value->a->Prop}:∀{cs:List Value} {xs:List a},AllR R cs xs->∀x∈xs,∃c,R c x
 | _,[],_,x,hx=>by cases hx
 | _,_ :: _,⟨c,d,e,k1,k2⟩,x,hx=>by
   rcases List.mem_cons.1 hx with rfl | hx
   ·grind
   ·exact AllR.mem k2 x hx
theorem AllR.len{b:Type}{R:List Value->b->Prop}{s:Nat}(a:∀c x,R c x->c.length=s):∀{cs:List Value} {xs:List b},AllR R cs xs->cs.length=xs.length*s
 | cs,[],h=>by rw[show cs=[] from h]; simp
 | cs,x :: r,⟨c,d,e,k1,k2⟩=>by
   subst e;rw[List.length_append,a _ _ k1,AllR.len a k2,List.length_cons,Nat.add_mul]; omega
theorem AllR.app{a:Type}{R:List Value->a->Prop}{ds:List Value}{b:List a}(k:AllR R ds b):∀{cs:List Value} {xs:List a},AllR R cs xs->AllR R (cs++ds) (xs++b)
 | cs,[],h=>by rw[show cs=[] from h]; exact k
 | _,_ :: _,⟨c,d,e,h1,h2⟩=>⟨c,d++ds,by rw[e]; simp,h1,AllR.app k h2⟩
theorem AllR.one{a:Type}{R:List Value->a->Prop}{c:List Value}{x:a}(h:R c x):AllR R c [x]:=⟨c,[],by simp,h,rfl⟩
theorem AllR.get{a:Type}{R:List Value->a->Prop}{s:Nat}(b:∀c x,R c x->c.length=s):∀{cs:List Value} {xs:List a} {i:Nat} (_:AllR R cs xs) (hi:i<xs.length),
  ∃pre c post,cs=pre++c++post/\pre.length=i*s/\R c xs[i]
 | _,x :: r,0,⟨c,d,e,h1,h2⟩,_=>⟨[],c,d,by simp[e],by simp,h1⟩
 | _,x :: r,i+1,⟨c,d,e,h1,h2⟩,hi=>by
   obtain⟨pre,g,post,h,j,f⟩:=AllR.get b h2 (i:=i) (by grind)
   grind
theorem AllR.set{b:Type}{R:List Value->b->Prop}{s:Nat}(g:∀c x,R c x->c.length=s){a:List Value}{y:b}(h:R a y):∀{cs:List Value} {xs:List b} {i:Nat} (_:AllR R cs xs) (_:i<xs.length),
  AllR R (cs.take (i*s)++a++cs.drop ((i+1)*s)) (xs.set i y)
 | _,x :: r,0,⟨c,d,e,h1,h2⟩,_=>by
   subst e;refine⟨a,d,?_,h,h2⟩
   grind
 | _,x :: r,i+1,⟨c,d,e,h1,h2⟩,hi=>by
   subst e;have f:=g _ _ h1;refine⟨c,d.take (i*s)++a++d.drop ((i+1)*s),?_,h1,AllR.set g h h2 (by simpa using hi)⟩;have j:(i+1)*s=c.length+i*s:=by rw[f,Nat.add_mul]; omega
   have k:(i+1+1)*s=c.length+(i+1)*s:=by rw[f,Nat.add_mul (i+1)]; omega
   rw[k,List.drop_length_add_append,j,List.take_length_add_append];simp
theorem RT.len{K:Nat->Prop}{w:World}:∀{t:Ty} {cs:List Value} {x:j7 t},RT K w t cs x->cs.length=sz t
 | .int _,_,_,h=>by rw[h.1]; rfl
 | .bool,_,_,h=>by rw[show _=_ from h]; rfl
 | .str,_,_,h=>by rw[h.1]; rfl
 | .sl _,_,_,⟨_,_,h,_⟩=>by rw[h]; rfl
 | .pt _,_,_,⟨_,_,_,h,_⟩=>by rw[h]; rfl
 | .pr a b,_,_,⟨c,d,h,h1,h2⟩=>by rw[h,List.length_append,RT.len h1,RT.len h2]; rfl
theorem RT.same{K K':Nat->Prop}{w w':World}(g:∀k,K k->k<w.heap.size->K' k/\w'.heap[k]?=w.heap[k]?):∀{t:Ty} {cs:List Value} {x:j7 t},RT K w t cs x->RT K' w' t cs x
 | .int _,_,_,h=>h
 | .bool,_,_,h=>h
 | .str,_,_,h=>h
 | .sl e,_,xs,⟨p,cap,h1,h2,h3,i⟩=>by
   refine⟨p,cap,h1,h2,h3,?_⟩;rcases i with i | ⟨b,o,ds,hp,hb,hat,hall⟩
   ·grind
   ·rcases Nat.eq_zero_or_pos ds.length with hz | hz
    ·left;have:=hall.len (fun c x h=>RT.len h)
     grind[Nat.mul_eq_zero,List.eq_nil_of_length_eq_zero,So]
    ·have f:=hat.lt hz;exact .inr ⟨b,o,ds,hp,(g b hb f).1,hat.same (fun _=>(g b hb f).2),hall.mapR (fun c x h=>RT.same g h)⟩
 | .pt e,_,x,⟨b,o,ds,h1,hb,hat,h2⟩=>by
   have hz:0<ds.length:=by rw[RT.len h2]; exact So e
   have f:=hat.lt hz;exact⟨b,o,ds,h1,(g b hb f).1,hat.same (fun _=>(g b hb f).2),RT.same g h2⟩
 | .pr a b,_,x,⟨c,d,h,h1,h2⟩=>⟨c,d,h,RT.same g h1,RT.same g h2⟩
def G7:Ty->Bool
 | .int _ | .bool | .str=>true
 | .sl _ | .pt _=>false
 | .pr a b=>G7 a&&G7 b
theorem RT.free{K K':Nat->Prop}{w w':World}:∀{t:Ty} {cs:List Value} {x:j7 t},G7 t=true->RT K w t cs x->RT K' w' t cs x
 | .int _,_,_,_,h=>h
 | .bool,_,_,_,h=>h
 | .str,_,_,_,h=>h
 | .pr a b,_,x,hk,⟨c,d,h,h1,h2⟩=>by
   simp only[G7,ba] at hk;exact⟨c,d,h,RT.free hk.1 h1,RT.free hk.2 h2⟩
theorem RT.up{K K':Nat->Prop}{w:World}{t:Ty}{cs:List Value}{x:j7 t}(h:RT K w t cs x)(b:∀k,K k->K' k):RT K' w t cs x:=RT.same (fun k a _=>⟨b k a,rfl⟩) h
theorem RT.wf{K:Nat->Prop}{w:World}:∀{t:Ty} {cs:List Value} {x:j7 t},RT K w t cs x->Xv.wf t x
 | .int _,_,_,h=>h.2
 | .bool,_,_,_=>trivial
 | .str,_,_,h=>h.2
 | .sl e,_,xs,⟨p,cap,h1,h2,h3,h4⟩=>by
   refine⟨by omega,fun x f=>?_⟩;rcases h4 with rfl | ⟨b,o,ds,hp,hb,hat,hall⟩
   ·cases f
   ·obtain⟨c,g⟩:=hall.mem x f;exact RT.wf g
 | .pt e,_,x,⟨b,o,ds,h1,hb,hat,h2⟩=>RT.wf (t:=e) h2
 | .pr a b,_,x,⟨c,d,h,h1,h2⟩=>⟨RT.wf h1,RT.wf h2⟩
theorem RT.one{K:Nat->Prop}{w:World}:∀{t:Ty} {cs:List Value} {x:j7 t},RT K w t cs x->∀u∈cs,u.oneCell'=true
 | .int _,_,_,h,u,e=>by rw[h.1] at e; cases List.mem_singleton.1 e; rfl
 | .bool,_,_,h,u,e=>by rw[show _=_ from h] at e; cases List.mem_singleton.1 e; rfl
 | .str,_,_,h,u,e=>by rw[h.1] at e; cases List.mem_singleton.1 e; rfl
 | .sl _,_,_,⟨_,_,h,_⟩,u,e=>by rw[h] at e; cases List.mem_singleton.1 e; rfl
 | .pt _,_,_,⟨_,_,_,h,_⟩,u,e=>by rw[h] at e; cases List.mem_singleton.1 e; rfl
 | .pr a b,_,_,⟨c,d,h,h1,h2⟩,u,e=>by
   rw[h] at e;rcases List.mem_append.1 e with e | e
   ·exact RT.one h1 u e
   ·exact RT.one h2 u e
theorem RT.get{K:Nat->Prop}{w:World}{e:Ty}{p:Option Addr}{n a:Nat}{xs:List (j7 e)}(h:RT K w (.sl e) [.slice p n a] xs){i:Nat}(hi:i<xs.length) :
  n=xs.length/\∃b o c,p=some ⟨b,o,none⟩/\K b/\At w b (o+i*sz e) c/\RT K w e c xs[i]:=by
 obtain⟨r,d,j,q,s,f⟩:=h;simp only[List.cons.injEq,Value.slice.injEq,and_true] at j;obtain⟨rfl,rfl,rfl⟩:=j;refine⟨rfl,?_⟩;rcases f with f | ⟨b,o,ds,hp,hb,hat,hall⟩
 ·grind
 ·obtain⟨k,c,g,rfl,m,l⟩:=hall.get (fun c x h=>RT.len h) hi;refine⟨b,o,c,hp,hb,?_,l⟩;rw[<- m]; exact hat.mid
inductive AV
 | v (x:Value)
 | d (fr:Bool) (t:Ty) (x:j7 t)
 | agg (xs:List AV)
 | tup (xs:List AV)
 | ptr (id off:Nat)
 | pel (id ver k s off:Nat)
 | os (id ver:Nat)
 | fn (f:FuncId) (caps:List AV)
 | ow (T:TypeId) (fr:Bool) (t:Ty) (xs:List (j7 t))
 | gel (id k:Nat)
 | og (id:Nat)
 | ob (T:TypeId) (cs:List AV)
inductive Ob
 | box (T:TypeId) (cs:List AV)
 | arr (T:TypeId) (fr:Bool) (t:Ty) (xs:List (j7 t)) (ver:Nat)
 | grd (T Te:TypeId) (fr:Bool) (t:Ty) (xs:List (List (j7 t))) (hole:Option Nat)
def c7{β:Type}:List (Nat×β)->Nat->Option β
 | [],_=>none
 | (d,v) :: e,t=>bif Nat.beq d t then some v else c7 e t
theorem lK{a:Type}(d:Nat)(v:a)(e:List (Nat×a))(t:Nat):c7 ((d,v) :: e) t=if d=t then some v else c7 e t:=by
 show(bif Nat.beq d t then some v else c7 e t)=_
 simp_all
structure Gh where
 ρ:Nat->Value
 γ:Nat->Option Nat
 K:Nat->Prop
 w:World
 o:List (Nat×Ob)
 B:Nat
 δ:Nat->Nat->Prop
def rg(G:Gh)(fr:Bool)(k:Nat):Prop:=G.K k/\(fr=true->G.B<=k)
mutual
def AVR(G:Gh):AV->Value->Prop
 | .v x,u=>u=x
 | .d fr t x,u=>RT (rg G fr) G.w t [u] x
 | .agg xs,u=>∃us:List Value,u=.agg us.toArray/\AVRs G xs us
 | .tup xs,u=>∃us:List Value,u=.tuple us.toArray/\AVRs G xs us
 | .ptr id off,u=>(∃T cs,c7 G.o id=some (.box T cs))/\∃b,G.ρ id=.pointer (some ⟨b,0,none⟩)/\u=.pointer (some ⟨b,off,none⟩)
 | .pel id ver k s off,u=>u.oneCell'=true/\∃T fr t xs ver',c7 G.o id=some (.arr T fr t xs ver')/\ver<=ver'/\(ver=ver'->∃b o n c,G.ρ id=.slice (some ⟨b,o,none⟩) n c/\u=.pointer (some ⟨b,o+(k*s+off),none⟩))
 | .os id ver,u=>u.oneCell'=true/\∃T fr t xs ver',c7 G.o id=some (.arr T fr t xs ver')/\ver<=ver'/\(ver=ver'->u=G.ρ id)
 | .fn f caps,u=>∃us:List Value,u=.func (.func f) #[] us.toArray/\AVRs G caps us
 | .ow ..,_=>False
 | .ob ..,_=>False
 | .gel id k,u=>(∃T Te fr t xs hole,c7 G.o id=some (.grd T Te fr t xs hole))/\∃b o n c,G.ρ id=.slice (some ⟨b,o,none⟩) n c/\u=.pointer (some ⟨b,o+k,none⟩)
 | .og id,u=>u.oneCell'=true/\(∃T Te fr t xs hole,c7 G.o id=some (.grd T Te fr t xs hole))/\u=G.ρ id
def AVRs(G:Gh):List AV->List Value->Prop
 | [],us=>us=[]
 | a :: r,us=>∃u us',us=u :: us'/\AVR G a u/\AVRs G r us'
end
theorem AVRs.len{G:Gh}:∀{as:List AV} {us:List Value},AVRs G as us->us.length=as.length
 | [],us,h=>by rw[show us=[] from h]; rfl
 | a :: r,us,⟨u,us',e,_,h⟩=>by rw[e]; simp[AVRs.len h]
theorem AVRs.app{G:Gh}{b:List AV}{vs:List Value}(k:AVRs G b vs):∀{as:List AV} {us:List Value},AVRs G as us->AVRs G (as++b) (us++vs)
 | [],us,h=>by rw[show us=[] from h]; exact k
 | a :: r,us,⟨u,us',e,h1,h2⟩=>⟨u,us'++vs,by rw[e]; rfl,h1,AVRs.app k h2⟩
theorem AVRs.split{G:Gh}{c:List AV}:∀{as:List AV} {us:List Value},AVRs G (as++c) us->∃us1 us2,us=us1++us2/\AVRs G as us1/\AVRs G c us2
 | [],us,h=>⟨[],us,rfl,rfl,h⟩
 | a :: r,us,⟨u,us',e,h1,h2⟩=>by
   obtain⟨b,g,i,f,d⟩:=AVRs.split h2;exact⟨u :: b,g,by grind,⟨u,b,rfl,h1,f⟩,d⟩
theorem AVRs.take{G:Gh}{a:List AV}{us:List Value}(h:AVRs G a us)(k:Nat):AVRs G (a.take k) (us.take k)/\AVRs G (a.drop k) (us.drop k):=by
 rw[<- List.take_append_drop k a] at h;obtain⟨g,i,e,d,b⟩:=h.split;have f:=d.len;have c:=b.len
 grind[List.length_take,List.drop_eq_nil_of_le,List.take_of_length_le]
theorem AVRs.get{G:Gh}:∀{as:List AV} {us:List Value} {i:Nat} {a:AV},AVRs G as us->as[i]?=some a->∃u,us[i]?=some u/\AVR G a u
 | a :: r,us,0,x,⟨u,us',e,h1,h2⟩,hx=>by
   grind
 | a :: r,us,i+1,x,⟨u,us',e,h1,h2⟩,hx=>by
   obtain⟨v,b,c⟩:=AVRs.get h2 (i:=i) (by simpa using hx)
   grind
def Sq:AV->Bool
 | .v x=>x.oneCell'
 | .d _ t _=>match t with | .pr _ _=>false | _=>true
 | .agg _ | .tup _ | .ow .. | .ob ..=>false
 | _=>true
theorem AVR.one{G:Gh}:∀{a:AV} {u:Value},AVR G a u->Sq a=true->u.oneCell'=true
 | .v x,u,h,ho=>by rw[show u=x from h]; exact ho
 | .d _ t x,u,h,_=>RT.one h u (List.mem_singleton.2 rfl)
 | .ptr _ _,u,⟨_,_,_,h⟩,_=>by rw[h]; rfl
 | .pel ..,u,h,_=>h.1
 | .os ..,u,h,_=>h.1
 | .fn ..,u,⟨_,h,_⟩,_=>by rw[h]; rfl
 | .gel ..,u,⟨_,_,_,_,_,_,h⟩,_=>by rw[h]; rfl
 | .og ..,u,h,_=>h.1
 | .ow ..,_,h,_=>h.elim
 | .ob ..,_,h,_=>h.elim
structure Rows(G:Gh)(id:Nat)(Te:TypeId)(fr:Bool)(t:Ty)(xs:List (List (j7 t)))(hole:Option Nat)(vs:List Value)(bs:Nat->Option Nat):Prop where
 len:vs.length=xs.length
 blk:∀b,G.δ id b↔∃k,k<xs.length/\hole≠some k/\bs k=some b
 inj:∀k k' b,k<xs.length->k'<xs.length->hole≠some k->hole≠some k'->bs k=some b->bs k'=some b->k=k'
 row:∀k,k<xs.length->hole≠some k->∃cs,Own G.w Te (sz t) (bs k) (vs.getD k (.bool false)) (xs.getD k []).length cs/\AllR (RT (rg G fr) G.w t) cs (xs.getD k [])/\∀b,bs k=some b->G.B<=b
 one:∀v∈vs,v.oneCell'=true
def ObR(G:Gh)(id:Nat):Ob->Prop
 | .box T cs=>∃b us,G.γ id=some b/\G.ρ id=.pointer (some ⟨b,0,none⟩)/\Blk G.w b us T/\AVRs G cs us
 | .arr T fr t xs _=>∃cs,Own G.w T (sz t) (G.γ id) (G.ρ id) xs.length cs/\AllR (RT (rg G fr) G.w t) cs xs/\∀b,G.γ id=some b->G.B<=b
 | .grd T Te fr t xs hole=>∃vs bs,Own G.w T 1 (G.γ id) (G.ρ id) xs.length vs/\Rows G id Te fr t xs hole vs bs/\∀b,G.γ id=some b->G.B<=b
def H4:Option Ob->Bool
 | some (.grd ..)=>true
 | _=>false
structure Cx where
 P:Program
 n:Nat
 w0:World
 io:Nat->Prop
 K0:Nat->Prop
 pin:Nat->Value->Prop
 base:Nat
structure Sat(X:Cx)(G:Gh):Prop where
 base:G.B=X.base/\X.base<=X.w0.heap.size
 os:G.w.os=X.w0.os
 tape:G.w.tape=X.w0.tape
 output:G.w.output=X.w0.output
 size:X.w0.heap.size<=G.w.heap.size
 block:∀k,k<X.w0.heap.size->¬X.io k->G.w.heap[k]?=X.w0.heap[k]?
 obs:∀id o,c7 G.o id=some o->ObR G id o
 inj:∀id id' o o' b,c7 G.o id=some o->c7 G.o id'=some o'->G.γ id=some b->G.γ id'=some b->id=id'
 imm:∀id o b,c7 G.o id=some o->G.γ id=some b->¬G.K b
 own:∀id o b,c7 G.o id=some o->G.γ id=some b->X.w0.heap.size<=b∨X.io b
 klt:∀k,G.K k->UFg G.w X.w0.heap.size k
 kfrom:∀k,G.K k->X.K0 k∨X.base<=k
 sep:∀id b,G.δ id b->H4 (c7 G.o id)=true->(X.w0.heap.size<=b∨X.io b)/\¬G.K b/\(∀i o,c7 G.o i=some o->G.γ i≠some b)/\∀i,G.δ i b->H4 (c7 G.o i)=true->id=i
 pin:∀i v,X.pin i v->AVR G (.ptr (500000+i) 0) v
theorem Sat.le{X:Cx}{G:Gh}(S:Sat X G):G.B<=X.w0.heap.size:=by
 rw[S.base.1]; exact S.base.2
structure GLe(G G':Gh):Prop where
 hB:G'.B=G.B
 hK:∀k,G.K k->k<G.w.heap.size->G'.K k/\G'.w.heap[k]?=G.w.heap[k]?
 hbox:∀id T cs,c7 G.o id=some (.box T cs)->G'.ρ id=G.ρ id/\∃T' cs',c7 G'.o id=some (.box T' cs')
 hgrd:∀id T Te fr t xs hole,c7 G.o id=some (.grd T Te fr t xs hole)->G'.ρ id=G.ρ id/\∃T' Te' fr' t' xs' hole',c7 G'.o id=some (.grd T' Te' fr' t' xs' hole')
 harr:∀id T fr t xs ver,c7 G.o id=some (.arr T fr t xs ver)->∃T' fr' t' xs' ver',c7 G'.o id=some (.arr T' fr' t' xs' ver')/\ver<=ver'/\(ver=ver'->G'.ρ id=G.ρ id)
theorem GLe.hR{G a:Gh}(h:GLe G a){fr:Bool}:∀k,rg G fr k->k<G.w.heap.size->rg a fr k/\a.w.heap[k]?=G.w.heap[k]?:=fun k ⟨c,d⟩ b=>⟨⟨(h.hK k c b).1,fun e=>by rw[h.hB]; exact d e⟩,(h.hK k c b).2⟩
mutual
theorem AVR.mono{G r:Gh}(h:GLe G r):∀{a:AV} {u:Value},AVR G a u->AVR r a u
 | .v _,_,k=>k
 | .d _ _ _,_,k=>RT.same h.hR k
 | .agg _,_,⟨us,e,k⟩=>⟨us,e,AVRs.mono h k⟩
 | .tup _,_,⟨us,e,k⟩=>⟨us,e,AVRs.mono h k⟩
 | .ptr id off,u,⟨⟨T,cs,h1⟩,b,h2,h3⟩=>by
   obtain⟨e,j⟩:=h.hbox id T cs h1;exact⟨j,b,by grind,h3⟩
 | .pel id ver k s off,u,⟨h0,T,fr,t,xs,ver',h1,h2,h3⟩=>by
   obtain⟨l,i,m,g,f,q,x,w⟩:=h.harr id T fr t xs ver' h1;refine⟨h0,l,i,m,g,f,q,by omega,fun e=>?_⟩
   grind
 | .os id ver,u,⟨h0,T,fr,t,xs,ver',h1,h2,h3⟩=>by
   obtain⟨l,i,m,g,f,q,x,w⟩:=h.harr id T fr t xs ver' h1;exact⟨h0,l,i,m,g,f,q,by omega,fun e=>by grind⟩
 | .fn _ _,_,⟨us,e,k⟩=>⟨us,e,AVRs.mono h k⟩
 | .ow ..,_,k=>k
 | .ob ..,_,k=>k
 | .gel id k,u,⟨⟨T,Te,fr,t,xs,hole,h1⟩,b,o,n,c,h2,h3⟩=>by
   obtain⟨e,j⟩:=h.hgrd id T Te fr t xs hole h1;exact⟨j,b,o,n,c,by grind,h3⟩
 | .og id,u,⟨h0,⟨T,Te,fr,t,xs,hole,h1⟩,h2⟩=>by
   obtain⟨e,j⟩:=h.hgrd id T Te fr t xs hole h1;exact⟨h0,j,by grind⟩
theorem AVRs.mono{G a:Gh}(h:GLe G a):∀{as:List AV} {us:List Value},AVRs G as us->AVRs a as us
 | [],_,k=>k
 | _ :: _,_,⟨u,us',e,k1,k2⟩=>⟨u,us',e,AVR.mono h k1,AVRs.mono h k2⟩
end
theorem GLe.refl(G:Gh):GLe G G:=⟨rfl,fun _ h _=>⟨h,rfl⟩,fun _ _ _ h=>⟨rfl,_,_,h⟩,fun _ _ _ _ _ _ _ h=>⟨rfl,_,_,_,_,_,_,h⟩,fun _ _ _ _ _ _ h=>⟨_,_,_,_,_,h,Nat.le_refl _,fun _=>rfl⟩⟩
theorem GLe.trans{A B C:Gh}(h:GLe A B)(k:GLe B C)(P:A.w.heap.size<=B.w.heap.size):GLe A C:=by
 refine⟨k.hB.trans h.hB,fun i hi x=>?_,fun i T E hi=>?_,fun i T z s t l j hi=>?_,fun i T s t l q hi=>?_⟩
 ·obtain⟨f,d⟩:=h.hK i hi x;obtain⟨m,n⟩:=k.hK i f (by omega)
  grind
 ·obtain⟨f,e,o,d⟩:=h.hbox i T E hi;obtain⟨m,n⟩:=k.hbox i e o d
  grind
 ·obtain⟨f,e,Te',b,r,c,a,d⟩:=h.hgrd i T z s t l j hi;obtain⟨m,n⟩:=k.hgrd i e Te' b r c a d
  grind
 ·obtain⟨e,b,r,c,g,f,d,F⟩:=h.harr i T s t l q hi;obtain⟨Q,y,G,v,u,m,n,H⟩:=k.harr i e b r c g f
  grind
theorem Rows.up{G f:Gh}{id:Nat}{Te:TypeId}{fr:Bool}{t:Ty}{xs:List (List (j7 t))}{a:Option Nat}{vs:List Value}{l:Nat->Option Nat}(h:Rows G id Te fr t xs a vs l)(d:GLe G f)(i:∀b,f.δ id b↔G.δ id b){go:Option Nat}(r:WE go G.w f.w)(g:∀b,G.δ id b->go≠some b):Rows f id Te fr t xs a vs l:=by
 refine⟨h.len,fun b=>(i b).trans (h.blk b),h.inj,fun k n m=>?_,h.one⟩;obtain⟨v,y,o,u⟩:=h.row k n m;exact⟨v,y.we r (fun j q e=>g j ((h.blk j).2 ⟨k,n,m,e⟩) q),o.mapR (fun c x s=>RT.same (w:=G.w) d.hR s),by rw[d.hB]; exact u⟩
theorem Og{o:Option Ob}(h:H4 o=true):∃T Te fr t xs hole,o=some (.grd T Te fr t xs hole):=by
 unfold H4 at h
 grind
theorem Sat.dlt{X:Cx}{G:Gh}(S:Sat X G){id b:Nat}(h:G.δ id b)(i:H4 (c7 G.o id)=true):b<G.w.heap.size:=by
 obtain⟨T,q,n,t,s,c,e⟩:=Og i;obtain⟨r,m,_,a,_⟩:=S.obs id _ e;obtain⟨k,g,f,d⟩:=(a.blk b).1 h;obtain⟨l,j,_⟩:=a.row k g f;exact j.lt b d
theorem Sat.duf{X:Cx}{G:Gh}(S:Sat X G){id b:Nat}(h:G.δ id b)(g:H4 (c7 G.o id)=true):UF G.w b:=by
 obtain⟨T,n,m,t,r,c,d⟩:=Og g;obtain⟨q,l,_,a,_⟩:=S.obs id _ d;obtain⟨k,f,e,i⟩:=(a.blk b).1 h;obtain⟨j,s,_⟩:=a.row k f e
 grind[Ge]
theorem Sat.ext{X:Cx}{G:Gh}(S:Sat X G){w':World}(h:Ext G.w w'):Sat X { G with w:=w' }/\GLe G { G with w:=w' }:=by
 have a:GLe G { G with w:=w' }:=⟨rfl,fun k d n=>⟨d,h.block k n⟩,fun _ _ _ h=>⟨rfl,_,_,h⟩,fun _ _ _ _ _ _ _ h=>⟨rfl,_,_,_,_,_,_,h⟩,fun _ _ _ _ _ _ h=>⟨_,_,_,_,_,h,Nat.le_refl _,fun _=>rfl⟩⟩;refine⟨⟨S.base,h.os.trans S.os,h.tape.trans S.tape,h.output.trans S.output,Nat.le_trans S.size h.size,fun k d hi=>(h.block k (Nat.lt_of_lt_of_le d S.size)).trans (S.block k d hi),?_,S.inj,S.imm,S.own,fun k d=>(S.klt k d).same h.size (a.hK k d (S.klt k d).lt).2,S.kfrom,S.sep,fun i v h=>(S.pin i v h).mono a⟩,a⟩;intro id o r;have:=S.obs id o r;cases o with
 | box T m =>
   obtain⟨b,q,j,f,g,u⟩:=this;exact⟨b,q,j,f,g.ext h,AVRs.mono a u⟩
 | arr T E t H F =>
   obtain⟨m,j,f,g⟩:=this;exact⟨m,j.up h,f.mapR (fun c x z=>RT.same (w:=G.w) a.hR z),g⟩
 | grd T P E t H l =>
   obtain⟨y,s,j,f,g⟩:=this;exact⟨y,s,j.up h,f.up a (fun _=>Iff.rfl) (go:=none) (WE.of_ext h) (fun _ _ e=>by cases e),g⟩
def Gh.put(G:Gh)(id:Nat)(ob:Ob)(r:Value)(g:Option Nat)(w':World):Gh :=
 ⟨fun i=>if i=id then r else G.ρ i,fun i=>if i=id then g else G.γ i,G.K,w',(id,ob) :: G.o,G.B,fun i b=>i≠id/\G.δ i b⟩
def w0M(G:Gh)(id:Nat)(ob:Ob)(r:Value):Prop :=
 (∀T cs,c7 G.o id=some (.box T cs)->r=G.ρ id/\∃T' cs',ob=.box T' cs') /\
 (∀T fr t xs ver,c7 G.o id=some (.arr T fr t xs ver)->∃T' fr' t' xs' ver',ob=.arr T' fr' t' xs' ver'/\ver<=ver'/\(ver=ver'->r=G.ρ id))/\H4 (c7 G.o id)=false
theorem Sat.put{X:Cx}{G:Gh}(S:Sat X G){id:Nat}{ob:Ob}{r:Value}{g:Option Nat}{w':World}{go:Option Nat}
  (Q:w0M G id ob r) (y:∀b,go=some b->(∃o,c7 G.o id=some o)/\G.γ id=some b) (f:WE go G.w w') (W:∀b,g=some b->go=some b∨G.w.heap.size<=b)
  (aM:GLe G (G.put id ob r g w')->ObR (G.put id ob r g w') id ob):Sat X (G.put id ob r g w')/\GLe G (G.put id ob r g w'):=by
 have n:∀i,c7 (G.put id ob r g w').o i=if id=i then some ob else c7 G.o i:=fun i=>lK _ _ _ _
 have aB:∀k,G.K k->go≠some k:=fun k q e=>by
  obtain⟨⟨o,d⟩,l⟩:=y k e;exact S.imm id o k d l q
 have u:GLe G (G.put id ob r g w'):=by
  refine⟨rfl,fun k q hl=>⟨q,f.block k hl (aB k q)⟩,fun i T cs hi=>?_,fun i T Te fr t xs P hi=>?_,fun i T fr t xs aA hi=>?_⟩
  ·rw[n];by_cases e:id=i
   ·subst e;obtain⟨s,T',aL,F⟩:=Q.1 T cs hi
    grind[Gh.put]
   grind[Gh.put]
  ·rw[n];by_cases e:id=i
   ·subst e;have:=Q.2.2;rw[hi] at this;cases this
   grind[Gh.put]
  ·rw[n];by_cases e:id=i
   ·subst e;obtain⟨T',aK,t',aN,aH,s,F,h3⟩:=Q.2.1 T fr t xs aA hi;simp only[Gh.put,if_true]
    grind
   ·simp only[Gh.put,if_neg e,if_neg (Ne.symm e)]
    grind
 have E:∀i o b,i≠id->c7 G.o i=some o->G.γ i=some b->go≠some b:=fun i o b hi d a e=>by
  obtain⟨⟨Y,m⟩,l⟩:=y b e;exact hi (S.inj i id o Y b d m a l)
 have aO:∀i o b,c7 G.o i=some o->G.γ i=some b->b<G.w.heap.size:=fun i o b d a=>by
  have:=S.obs i o d;cases o with
  | box T cs=>obtain⟨b',us,s,F,h3,h4⟩:=this; rw[a] at s; cases s; exact h3.lt
  | arr T fr t xs aA=>obtain⟨cs,s,F,_⟩:=this; exact s.lt b a
  | grd T Te fr t xs P=>obtain⟨vs,bs,s,_⟩:=this; exact s.lt b a
 have aF:∀b,g=some b->∀i o,i≠id->c7 G.o i=some o->G.γ i≠some b:=fun b a i o hi d e=>by
  grind
 have aP:=W;refine⟨⟨S.base,f.os.trans S.os,f.tape.trans S.tape,f.output.trans S.output,Nat.le_trans S.size f.size,fun k q hi=>?_,?_,?_,?_,?_,fun k q=>(S.klt k q).same f.size (u.hK k q (S.klt k q).lt).2,S.kfrom,?_,fun i v h=>(S.pin i v h).mono u⟩,u⟩
 ·refine(f.block k (Nat.lt_of_lt_of_le q S.size) (fun e=>?_)).trans (S.block k q hi);obtain⟨⟨o,d⟩,l⟩:=y k e;rcases S.own id o k d l with h | h
  ·omega
  grind
 ·intro i o d;rw[n] at d;by_cases e:id=i
  ·grind
  ·rw[if_neg e] at d;have:=S.obs i o d;cases o with
   | box T cs =>
     obtain⟨b,us,s,F,h3,h4⟩:=this;refine⟨b,us,?_,?_,?_,AVRs.mono u h4⟩
     ·grind[Gh.put]
     ·grind[Gh.put]
     ·exact h3.we f (fun j H z=>by grind)
   | arr T fr t xs aA =>
     obtain⟨cs,s,F,h3⟩:=this;refine⟨cs,?_,?_,by grind[Gh.put]⟩
     ·simp only[Gh.put,if_neg (Ne.symm e)];exact s.we f (fun j H z=>E i _ j (Ne.symm e) d z H)
     ·exact F.mapR (fun c x hr=>RT.same (w:=G.w) u.hR hr)
   | grd T Te fr t xs P =>
     obtain⟨vs,bs,s,F,h3⟩:=this;refine⟨vs,bs,?_,?_,by grind[Gh.put]⟩
     ·simp only[Gh.put,if_neg (Ne.symm e)];exact s.we f (fun j H z=>E i _ j (Ne.symm e) d z H)
     ·refine F.up u (fun b=>⟨fun h=>h.2,fun h=>⟨Ne.symm e,h⟩⟩) f (fun b a aC=>?_);obtain⟨⟨Y,m⟩,l⟩:=y b aC;exact(S.sep i b a (by rw[d]; rfl)).2.2.1 id Y m l
 ·intro i i' o Y b d m a V;rw[n] at d m;simp only[Gh.put] at a V;by_cases e:i=id
  ·grind
  ·rw[if_neg e] at a;rw[if_neg (Ne.symm e)] at d;by_cases e':i'=id
   ·grind
   ·rw[if_neg e'] at V;rw[if_neg (Ne.symm e')] at m;exact S.inj i i' o Y b d m a V
 ·intro i o b d a q;rw[n] at d;simp only[Gh.put] at a q;by_cases e:i=id
  ·rw[if_pos e] at a;rcases W b a with h | h
   ·grind
   ·have:=(S.klt b q).lt; omega
  ·rw[if_neg e] at a;rw[if_neg (Ne.symm e)] at d;exact S.imm i o b d a q
 ·intro i o b d a;rw[n] at d;simp only[Gh.put] at a;by_cases e:i=id
  ·rw[if_pos e] at a;rcases W b a with h | h
   ·obtain⟨⟨Y,m⟩,l⟩:=y b h;exact S.own id Y b m l
   ·exact .inl (Nat.le_trans S.size h)
  ·rw[if_neg e] at a;rw[if_neg (Ne.symm e)] at d;exact S.own i o b d a
 ·intro i b a W;obtain⟨aD,a⟩:=a;rw[n,if_neg (Ne.symm aD)] at W;obtain⟨s1,s2,s3,s4⟩:=S.sep i b a W;have aI:=S.dlt a W;refine⟨s1,s2,fun j o d H=>?_,fun j H aJ=>?_⟩
  ·grind[Gh.put]
  ·obtain⟨aG,H⟩:=H
   grind
def Gh.grd(G:Gh)(id:Nat)(ob:Ob)(D:Nat->Prop)(w':World):Gh :=
 ⟨G.ρ,G.γ,G.K,w',(id,ob) :: G.o,G.B,fun i b=>(i=id/\D b)∨(i≠id/\G.δ i b)⟩
theorem Sat.grd{X:Cx}{G:Gh}(S:Sat X G){id:Nat}{T Te T' Te':TypeId}{fr fr':Bool}{t t':Ty}{xs:List (List (j7 t))}{xs':List (List (j7 t'))}{Q hole':Option Nat}{D:Nat->Prop}{w':World}{go:Option Nat}
  (P:c7 G.o id=some (.grd T Te fr t xs Q)) (s:∀b,go=some b->G.γ id=some b) (d:WE go G.w w')
  (hD:∀b,D b->(X.w0.heap.size<=b∨X.io b)/\¬G.K b/\(∀i o,c7 G.o i=some o->G.γ i≠some b)/\∀i,i≠id->G.δ i b->H4 (c7 G.o i)=true->False)
  (aB:GLe G (G.grd id (.grd T' Te' fr' t' xs' hole') D w')->ObR (G.grd id (.grd T' Te' fr' t' xs' hole') D w') id (.grd T' Te' fr' t' xs' hole')) :
  Sat X (G.grd id (.grd T' Te' fr' t' xs' hole') D w')/\GLe G (G.grd id (.grd T' Te' fr' t' xs' hole') D w'):=by
 have F:∀i,c7 (G.grd id (.grd T' Te' fr' t' xs' hole') D w').o i=if id=i then some (.grd T' Te' fr' t' xs' hole') else c7 G.o i:=fun i=>lK _ _ _ _
 have a:∀i o,c7 (G.grd id (.grd T' Te' fr' t' xs' hole') D w').o i=some o->∃o',c7 G.o i=some o':=fun i o h=>by
  grind
 have n:∀i,H4 (c7 (G.grd id (.grd T' Te' fr' t' xs' hole') D w').o i)=H4 (c7 G.o i):=fun i=>by
  rw[F];by_cases e:id=i
  ·subst e; rw[if_pos rfl,P]; rfl
  grind
 have W:∀k,G.K k->go≠some k:=fun k q e=>S.imm id _ k P (s k e) q;have m:GLe G (G.grd id (.grd T' Te' fr' t' xs' hole') D w'):=by
  refine⟨rfl,fun k q hl=>⟨q,d.block k hl (W k q)⟩,fun i T0 cs hi=>⟨rfl,?_⟩,fun i T0 Te0 f0 t0 x0 h0 hi=>⟨rfl,?_⟩,fun i T0 f0 t0 x0 aA hi=>?_⟩
  ·grind
  ·grind
  ·rw[F];by_cases e:id=i
   ·grind
   ·rw[if_neg e]; exact⟨_,_,_,_,_,hi,Nat.le_refl _,fun _=>rfl⟩
 have y:∀i o b,i≠id->c7 G.o i=some o->G.γ i=some b->go≠some b:=fun i o b hi h f e=>hi (S.inj i id o _ b h P f (s b e));refine⟨⟨S.base,d.os.trans S.os,d.tape.trans S.tape,d.output.trans S.output,Nat.le_trans S.size d.size,fun k q hi=>?_,?_,?_,?_,?_,fun k q=>(S.klt k q).same d.size (m.hK k q (S.klt k q).lt).2,S.kfrom,?_,fun i v h=>(S.pin i v h).mono m⟩,m⟩
 ·refine(d.block k (Nat.lt_of_lt_of_le q S.size) (fun e=>?_)).trans (S.block k q hi);rcases S.own id _ k P (s k e) with h | h
  ·omega
  grind
 ·intro i o hi;rw[F] at hi;by_cases e:id=i
  ·grind
  ·rw[if_neg e] at hi;have:=S.obs i o hi;cases o with
   | box T cs =>
     obtain⟨b,us,g,z,H,h4⟩:=this;exact⟨b,us,g,z,H.we d (fun j l u=>by grind),h4.mono m⟩
   | arr T fr t xs aA =>
     obtain⟨cs,g,z,H⟩:=this;exact⟨cs,g.we d (fun j l u=>y i _ j (Ne.symm e) hi u l),z.mapR (fun c x hr=>RT.same (w:=G.w) m.hR hr),H⟩
   | grd T0 Te0 f0 t0 x0 h0 =>
     obtain⟨vs,bs,g,z,H⟩:=this;refine⟨vs,bs,g.we d (fun j l u=>y i _ j (Ne.symm e) hi u l),z.up m (fun b=>⟨fun h=>?_,fun h=>.inr ⟨Ne.symm e,h⟩⟩) d (fun b f n=>?_),H⟩
     ·rcases h with ⟨h,_⟩ | ⟨_,h⟩
      ·omega
      omega
     ·exact(S.sep i b f (by rw[hi]; rfl)).2.2.1 id _ P (s b n)
 ·intro i i' o o' b h h' f Y;obtain⟨r,g⟩:=a i o h;obtain⟨o2,z⟩:=a i' o' h';exact S.inj i i' r o2 b g z f Y
 ·intro i o b h f;obtain⟨r,g⟩:=a i o h;exact S.imm i r b g f
 ·intro i o b h f;obtain⟨r,g⟩:=a i o h;exact S.own i r b g f
 ·intro i b f hg;rw[n] at hg;rcases f with ⟨rfl,f⟩ | ⟨hne,f⟩
  ·obtain⟨s1,s2,V,s4⟩:=hD b f;refine⟨s1,s2,fun j o h l=>?_,fun j l E=>?_⟩
   ·obtain⟨r,g⟩:=a j o h;exact V j r g l
   ·rw[n] at E;rcases l with ⟨e,_⟩ | ⟨e,l⟩
    ·omega
    grind
  ·obtain⟨s1,s2,V,s4⟩:=S.sep i b f hg;refine⟨s1,s2,fun j o h l=>?_,fun j l E=>?_⟩
   ·obtain⟨r,g⟩:=a j o h;exact V j r g l
   ·rw[n] at E;rcases l with ⟨rfl,l⟩ | ⟨e,l⟩
    ·grind
    grind
def X2(t t':Ty)(x:j7 t):Option (j7 t'):=if h:t=t' then some (h ▸ x) else none
theorem DR{t t':Ty}{x:j7 t}{y:j7 t'}(h:X2 t t' x=some y):∃e:t=t',y=e ▸ x:=by
 unfold X2 at h
 grind
def AO(o:List (Nat×Ob))(rec:(t:Ty)->List AV->Option (j7 t×List Nat×Bool)):(t:Ty)->AV->Option (j7 t×List Nat×Bool)
 | t,.d fr t' x=>match X2 t' t x with
   | some y=>some (y,[],fr||G7 t)
   | none=>none
 | .sl _,.v (.slice none 0 0)=>some ([],[],true)
 | .sl e,.os id ver=>match c7 o id with
   | some (.arr _ fr e' xs ver')=>bif Nat.beq ver ver' then(match X2 (.sl e') (.sl e) xs with
     | some y=>some (y,[id],fr||G7 e)
     | none=>none) else none
   | _=>none
 | .pt e,.ptr id off=>match c7 o id with
   | some (.box _ cs)=>match rec e ((cs.drop off).take (sz e)) with
     | some (x,l,_)=>some (x,id :: l,false)
     | none=>none
   | _=>none
 | _,_=>none
def G9(o:List (Nat×Ob)):Nat->(t:Ty)->List AV->Option (j7 t×List Nat×Bool)
 | 0,_,_=>none
 | n+1,.pr a b,cs=>match G9 o n a (cs.take (sz a)) with
   | some (x,l,f)=>match G9 o n b (cs.drop (sz a)) with
     | some (y,m,g)=>some ((x,y),l++m,f&&g)
     | none=>none
   | none=>none
 | n+1,t,cs=>match cs with
   | [c]=>AO o (G9 o n) t c
   | _=>none
def rk(G:Gh)(K':Nat->Prop)(fl:Bool)(k:Nat):Prop:=K' k/\(fl=true->G.B<=k)
theorem s0t{X:Cx}{G:Gh}(S:Sat X G){K':Nat->Prop}(hK:∀k,G.K k->K' k){q:(t:Ty)->List AV->Option (j7 t×List Nat×Bool)}
  (m:∀{t:Ty} {cs:List AV} {us:List Value} {x:j7 t} {l:List Nat} {r:Bool},q t cs=some (x,l,r)->(∀id∈l,∀b,G.γ id=some b->K' b)->AVRs G cs us->RT (rk G K' r) G.w t us x)
  {t:Ty} {c:AV} {u:Value} {x:j7 t} {l:List Nat} {r:Bool} (h:AO G.o q t c=some (x,l,r)) (P:∀id∈l,∀b,G.γ id=some b->K' b) (d:AVR G c u):RT (rk G K' r) G.w t [u] x:=by
 unfold AO at h;split at h
 ·rename_i t0 fr t' x0;split at h
  ·rename_i y Q;simp only[oi,pj] at h;obtain⟨rfl,rfl,rfl⟩:=h;obtain⟨e,rfl⟩:=DR Q;subst e;by_cases hf:G7 t'=true
   ·exact RT.free hf d
   ·exact RT.up d (fun k j=>⟨hK k j.1,fun e=>j.2 (by grind)⟩)
  grind
 ·simp only[oi,pj] at h;obtain⟨rfl,rfl,rfl⟩:=h;have:u=_:=d;subst this;exact⟨none,0,rfl,Nat.le_refl _,by omega,.inl rfl⟩
 ·rename_i e id aD;split at h
  ·rename_i T fr e' xs Y H;rw[ce] at h;split at h
   ·rename_i s;split at h
    ·rename_i y Q;simp only[oi,pj] at h;obtain⟨rfl,rfl,rfl⟩:=h;obtain⟨z,rfl⟩:=DR Q;cases z;obtain⟨_,T1,aA,t1,aB,V,F,h2,h3⟩:=d;rw[H] at F;cases F;have d:=h3 (nb s);subst d;obtain⟨cs,n,hA,hB⟩:=S.obs id _ H;have a:AllR (RT (rk G K' (fr||G7 e)) G.w e) cs xs:=hA.mapR (fun c x hr=>by
      by_cases hf:G7 e=true
      ·grind[RT.free]
      ·exact RT.up hr (fun k j=>⟨hK k j.1,fun e'=>j.2 (by grind)⟩))
     cases hg:G.γ id with
     | none =>
       rw[hg] at n;rcases n with ⟨_,hn,_,p,hp⟩ | ⟨b,_,_,_,E,_⟩
       ·have:xs=[]:=List.eq_nil_of_length_eq_zero hn;subst this;exact⟨p,0,by grind,Nat.le_refl _,by omega,.inl rfl⟩
       grind
     | some b =>
       rw[hg] at n;obtain⟨o0,c0,z,g⟩:=n.at;rcases n with ⟨h,_⟩ | ⟨b',o1,cap,cur,E,hv2,k1,k2,k3,k4,k5⟩
       ·cases h
       ·cases E;rw[hv2] at z; cases z;exact⟨_,c0,by rw[hv2],k2,(by grind[maxLen]),.inr ⟨b,o0,cs,rfl,⟨P id (by simp) b hg,fun _=>hB b hg⟩,g,a⟩⟩
    grind
   grind
  grind
 ·rename_i e id f;split at h
  ·rename_i T aC H;split at h
   ·rename_i x1 l1 f1 F;simp only[oi,pj] at h;obtain⟨rfl,rfl,rfl⟩:=h;obtain⟨_,b,E,rfl⟩:=d;obtain⟨b',us,g1,W,g3,g4⟩:=S.obs id _ H;rw[E] at W;cases W;have a:=((g4.take f).2.take (sz e)).1;have hR:=m F (fun i hi=>P i (by grind)) a;refine⟨b,f,_,rfl,⟨P id (by simp) b g1,(fun e=>by cases e)⟩,?_,RT.up hR (fun k j=>⟨j.1,(fun e=>by cases e)⟩)⟩;have g:=g3.at;intro i v s;have hi:i<sz e:=by
     rcases Nat.lt_or_ge i (sz e) with h' | h'
     ·exact h'
     ·grind
    rw[List.getElem?_take_of_lt hi,List.getElem?_drop] at s;have:=g (f+i) v s
    grind
   grind
  grind
 grind
theorem Gf{X:Cx}{G:Gh}(S:Sat X G){K':Nat->Prop}(hK:∀k,G.K k->K' k):∀(n:Nat) {t:Ty} {cs:List AV} {us:List Value} {x:j7 t} {l:List Nat} {fl:Bool},
  G9 G.o n t cs=some (x,l,fl)->(∀id∈l,∀b,G.γ id=some b->K' b)->AVRs G cs us->RT (rk G K' fl) G.w t us x:=by
 intro n
 induction n with
 | zero=>grind[G9]
 | succ n s =>
   intro t cs us x l fl h v y;have m:∀(t:Ty) (x:j7 t) (r:Option (j7 t×List Nat×Bool)),r=some (x,l,fl)->r=(match(generalizing:=false) cs with | [c]=>AO G.o (G9 G.o n) t c | _=>none)->RT (rk G K' fl) G.w t us x:=by
    intro t x r j g;rw[j] at g;have h:=g.symm;split at h
    ·rename_i c;obtain⟨u,i,rfl,V,E⟩:=y;have:i=[]:=E
     grind[s0t]
    ·cases h
   cases t with
   | pr a b =>
     unfold G9 at h;split at h
     ·rename_i H Y T F;split at h
      ·rename_i P Q W z;simp only[oi,pj] at h;obtain⟨rfl,rfl,rfl⟩:=h;have d:=AVRs.take y (sz a);refine⟨us.take (sz a),us.drop (sz a),(List.take_append_drop _ _).symm,RT.up (s F (fun id q=>v id (by grind)) d.1) (fun k f=>⟨f.1,fun e=>f.2 ?_⟩),RT.up (s z (fun id q=>v id (by grind)) d.2) (fun k f=>⟨f.1,fun e=>f.2 ?_⟩)⟩
       ·grind
       grind
      grind
     grind
   | _=>exact m _ _ _ h rfl
theorem XZ{X:Cx}{G:Gh}(S:Sat X G){n:Nat}{t:Ty}{cs:List AV}{us:List Value}{x:j7 t}{a:Bool}(h:G9 G.o n t cs=some (x,[],a))(b:AVRs G cs us):RT (rg G a) G.w t us x :=
 Gf S (K':=G.K) (fun _ h=>h) n h (fun _ h=>by cases h) b
def p8(fr:Bool):(t:Ty)->j7 t->List AV
 | .pr a b,x=>p8 fr a x.1++p8 fr b x.2
 | .int k,x=>[.d fr (.int k) x]
 | .bool,x=>[.d fr .bool x]
 | .str,x=>[.d fr .str x]
 | .sl e,x=>[.d fr (.sl e) x]
 | .pt e,x=>[.d fr (.pt e) x]
theorem DS{G:Gh}{fr:Bool}:∀{t:Ty} {us:List Value} {x:j7 t},RT (rg G fr) G.w t us x->AVRs G (p8 fr t x) us
 | .pr a b,_,x,⟨c,d,e,h1,h2⟩=>by rw[e]; exact AVRs.app (DS h2) (DS h1)
 | .int _,us,x,h=>⟨_,[],h.1,⟨rfl,h.2⟩,rfl⟩
 | .bool,us,x,h=>⟨_,[],(show us=_ from h),rfl,rfl⟩
 | .str,us,x,h=>⟨_,[],h.1,⟨rfl,h.2⟩,rfl⟩
 | .sl e,us,x,⟨p,cap,h1,h⟩=>⟨_,[],h1,⟨p,cap,rfl,h⟩,rfl⟩
 | .pt e,us,x,⟨b,o,ds,h1,h⟩=>⟨_,[],h1,⟨b,o,ds,rfl,h⟩,rfl⟩
def Gg(fr:Bool):(t:Ty)->j7 t->Nat->Option AV
 | t,x,0=>some (.d fr (.pt t) x)
 | .pr a b,x,off=>bif Nat.ble (sz a) off then Gg fr b x.2 (off-sz a) else Gg fr a x.1 off
 | _,_,_=>none
theorem o0Y{G:Gh}{fr:Bool}{b:Nat}(j:rg G fr b):∀{t:Ty} {x:j7 t} {off o:Nat} {ds:List Value} {a:AV},Gg fr t x off=some a->At G.w b o ds->RT (rg G fr) G.w t ds x->AVR G a (.pointer (some ⟨b,o+off,none⟩)):=by
 intro t
 induction t with
 | pr q r i n =>
   intro x off o ds a h e g;cases off with
   | zero=>simp only[Gg,oi] at h; subst h; exact⟨b,o,ds,rfl,j,e,g⟩
   | succ off =>
     simp only[Gg,ce] at h;split at h
     ·rename_i f;have f:=Nat.le_of_ble_eq_true f;obtain⟨c,d,rfl,l,m⟩:=g;have k:At G.w b (o+c.length) d:=At.mid (pre:=c) (c:=d) (post:=[]) (by grind)
      grind[RT.len,sz]
     ·obtain⟨c,d,rfl,l,m⟩:=g;exact i h (At.mid (pre:=[]) (c:=c) (post:=d) (by grind)) l
 | _ =>
   intro x off o ds a h e g;cases off with
   | zero=>simp only[Gg,oi] at h; subst h; exact⟨b,o,ds,rfl,j,e,g⟩
   | succ off=>grind[Gg]
abbrev Pa:=List (Nat×Bool)
structure Sl where
 p:Pa
 a:AV
structure St where
 e:List (Nat×Sl)
 o:List (Nat×Ob)
def Sr(p q:Pa):Bool:=p.all fun x=>q.any fun y=>Nat.beq x.1 y.1&&(x.2==y.2)
def PathP(p:Pa)(a:Act):Prop:=∀x∈p,a.tmps.getD x.1 undef=.bool x.2
theorem PathP.sub{p q:Pa}{a:Act}(h:PathP q a)(c:Sr p q=true):PathP p a:=by
 intro x e;simp only[Sr,List.all_eq_true,List.any_eq_true,ba,beq_iff_eq] at c;obtain⟨y,f,b,d⟩:=c x e;have b:=nb b;rw[b,d]; exact h y f
structure EnvR(n:Nat)(G:Gh)(e:List (Nat×Sl))(a:Act):Prop where
 defers:a.defers=[]
 size:a.tmps.size=n
 val:∀t s,c7 e t=some s->(PathP s.p a->AVR G s.a (a.tmps.getD t undef))/\(¬PathP s.p a->a.tmps.getD t undef=undef)
theorem EnvR.mono{n:Nat}{G c:Gh}{e:List (Nat×Sl)}{a:Act}(h:EnvR n G e a)(d:GLe G c):EnvR n c e a :=
 ⟨h.defers,h.size,fun t s b=>⟨fun f=>((h.val t s b).1 f).mono d,(h.val t s b).2⟩⟩
def Oh:Value->Option AV
 | .int k n=>bif decide (lo k<=n)&&decide (n<=hi k) then some (.d true (.int k) n) else none
 | .bool b=>some (.d true .bool b)
 | .string s=>bif decide (s.size<=9223372036854775807) then some (.d true .str s) else none
 | .agg _=>none
 | .tuple _=>none
 | u=>some (.v u)
def AP:List Value->Option (List AV)
 | []=>some []
 | u :: r=>match Oh u with
   | some a=>match AP r with
     | some l=>some (a :: l)
     | none=>none
   | none=>none
theorem k0B{G:Gh}{u:Value}{a:AV}(h:Oh u=some a):AVR G a u:=by
 unfold Oh at h;split at h
 ·rw[ce] at h;split at h
  ·rename_i b;simp only[ba,dq] at b;simp only[oi] at h; subst h; exact⟨rfl,b⟩
  grind
 ·simp only[oi] at h; subst h; exact rfl
 ·rw[ce] at h;split at h
  ·rename_i b;simp only[dq] at b;simp only[oi] at h; subst h; exact⟨rfl,b⟩
  grind
 ·cases h
 ·cases h
 ·simp only[oi] at h; subst h; exact rfl
theorem Kp{G:Gh}:∀{us:List Value} {as:List AV},AP us=some as->AVRs G as us
 | [],as,h=>by simp[AP] at h; subst h; exact rfl
 | u :: r,as,h=>by
   unfold AP at h;split at h
   ·rename_i a b;split at h
    ·rename_i l c;simp at h; subst h; exact⟨u,r,rfl,k0B b,Kp c⟩
    grind
   grind
def Ss:Value->Option AV
 | .agg cs=>match AP cs.toList with
   | some l=>some (.agg l)
   | none=>none
 | u=>Oh u
theorem s0y{G:Gh}{u:Value}{a:AV}(h:Ss u=some a):AVR G a u:=by
 unfold Ss at h;split at h
 ·rename_i c;split at h
  ·rename_i l b;simp at h; subst h; exact⟨c.toList,by simp,Kp b⟩
  grind
 grind[k0B]
def rd(st:St)(p:Pa):Operand->Option AV
 | .tmp t=>match c7 st.e t with
   | some s=>bif Sr s.p p then some s.a else none
   | none=>none
 | .const v=>Ss v
 | .func f=>some (.fn f [])
 | .global g=>some (.v (.pointer (some ⟨g,0,none⟩)))
theorem C8{n:Nat}{G:Gh}{st:St}{a:Act}{p:Pa}(c:EnvR n G st.e a)(d:PathP p a){x:Operand}{v:AV}(h:rd st p x=some v):AVR G v (a.eval x):=by
 unfold rd at h;split at h
 ·rename_i t;split at h
  ·rename_i s f;rw[ce] at h;split at h
   ·rename_i b;simp at h; subst h;exact(c.val t s f).1 (d.sub b)
   grind
  grind
 ·exact s0y h
 ·simp at h; subst h; exact⟨[],rfl,rfl⟩
 ·simp at h; subst h; exact rfl
def L8(st:St)(p:Pa):List Operand->Option (List AV)
 | []=>some []
 | x :: r=>match rd st p x with
   | some a=>match L8 st p r with
     | some l=>some (a :: l)
     | none=>none
   | none=>none
theorem Br{n:Nat}{G:Gh}{st:St}{a:Act}{p:Pa}(c:EnvR n G st.e a)(d:PathP p a):∀{xs:List Operand} {vs:List AV},L8 st p xs=some vs->AVRs G vs (xs.map a.eval)
 | [],vs,h=>by simp[L8] at h; subst h; exact rfl
 | x :: r,vs,h=>by
   unfold L8 at h;split at h
   ·rename_i b g;split at h
    ·rename_i l f;simp at h; subst h; exact⟨_,_,rfl,C8 c d g,Br c d f⟩
    grind
   grind
inductive Kd
 | agg (pl:List (Nat×Nat)) (e:Bool) (ag:List Bool) | sl (E:TypeId) | arr (m:Nat) (E:TypeId) | str | bool | int (k:IntKind) | oth | ptr
structure TI where
 size:Nat
 bytes:Nat
 zero:Value
 kd:Kd
 ty:Ty
def Su(P:Program)(T:TypeId):Nat->List (Nat×Nat)->Prop
 | _,[]=>True
 | k,(off,_) :: r=>Oe P T k=some (off,true)/\Su P T (k+1) r
def N0k(P:Program)(t:TypeId):Bool:=match P.underlying t with
 | some (.int _)=>true
 | _=>false
def Sw(P:Program):Nat->List Field->Bool
 | _,[]=>true
 | k, f :: r => decide (f.name ≠ "_") && Nat.beq f.offset k && N0k P f.type && Sw P (k + 1) r
def Ya(P:Program)(T:TypeId):Bool:=match P.underlying T with
 | some (.struct fs)=>!P.stoodInHeld T&&!P.eqGuardType P.depth T&&Sw P 0 fs.toList
 | _=>false
def Yb(P:Program)(T:TypeId):Option (List (Bool×Bool)):=match P.underlying T with
 | some (.struct fs)=>some (fs.toList.map fun f=>(Bq P f.type,X0 P f.type))
 | _=>none
def Sx(P:Program)(T:TypeId):Kd->Prop
 | .agg pl e ag=>Bq P T=true/\Kl P T=some pl/\Of P T=true/\Su P T 0 pl/\(e=true->Ya P T=true)/\Yb P T=some (ag.map fun b=>(b,!b))
 | .arr m E=>Bq P T=true/\P.underlying T=some (.array m E)
 | .sl E=>X0 P T=true/\P.underlying T=some (.slice E)
 | .str=>X0 P T=true/\P.underlying T=some .string
 | .bool=>X0 P T=true/\P.underlying T=some .bool
 | .int k=>X0 P T=true/\P.underlying T=some (.int k)
 | .oth=>X0 P T=true
 | .ptr=>X0 P T=true/\P.underlying T=some (.pointer (P.pointee T))
def Ih(P:Program)(T:TypeId)(ti:TI):Prop :=
 Se P T=some (ti.size,ti.bytes,some ti.zero)/\CP ti.zero.cells.toList ti.size=true/\Nat.blt 0 ti.size=true/\ones ti.zero.cells.toList=true/\Sx P T ti.kd
abbrev p5:=List (Nat×TI)
def x7(P:Program)(Γ:p5):Prop:=∀T ti,c7 Γ T=some ti->Ih P T ti
theorem g0U{P:Program}{T:TypeId}:∀{pl:List (Nat×Nat)} {j k:Nat} {x:Nat×Nat},Su P T j pl->pl[k]?=some x->Oe P T (j+k)=some (x.1,true)
 | (off,s) :: r,j,0,x,h,hx=>by simp at hx; subst hx; exact h.1
 | (off,s) :: r,j,k+1,x,h,hx=>by
   have:=g0U (j:=j+1) (k:=k) h.2 (by simpa using hx);rw[show j+(k+1)=j+1+k by omega]; exact this
def isAgg:Kd->Bool
 | .agg .. | .arr ..=>true
 | _=>false
theorem C0g{P:Program}{T:TypeId}{a:Kd}(h:Sx P T a):(isAgg a=true->Bq P T=true)/\(isAgg a=false->X0 P T=true):=by
 cases a with
 | agg b e c=>exact⟨fun _=>h.1,(fun e=>by cases e)⟩
 | arr m E=>exact⟨fun _=>h.1,(fun e=>by cases e)⟩
 | oth=>exact⟨(fun e=>by cases e),fun _=>h⟩
 | _=>exact⟨(fun e=>by cases e),fun _=>h.1⟩
def D2(a:Act):List Operand->D1
 | []=>[]
 | .tmp t :: r=>(t,a.tmps.getD t undef) :: D2 a r
 | _ :: r=>D2 a r
theorem Oi{a:Act}{t:Nat}{v:Value}:∀{xs:List Operand},lk (D2 a xs) t=some v->a.tmps.getD t undef=v
 | [],h=>by cases h
 | .tmp s :: r,h=>by
   rw[D2,RZ] at h;by_cases e:s=t
   ·grind
   ·rw[if_neg e] at h; exact Oi h
 | .const _ :: r,h=>Oi (xs:=r) h
 | .global _ :: r,h=>Oi (xs:=r) h
 | .func _ :: r,h=>Oi (xs:=r) h
theorem Yc{n:Nat}{G:Gh}{e:List (Nat×Sl)}{a:Act}(h:EnvR n G e a)(xs:List Operand):Agree n (D2 a xs) a:=⟨h.defers,h.size,fun _ _ b=>Oi b⟩
theorem r0h{a:Act}{t:Nat}:∀{xs:List Operand},.tmp t∈xs->lk (D2 a xs) t=some (a.tmps.getD t undef)
 | y :: r,h=>by
   have d:Operand.tmp t∈r->lk (D2 a (y :: r)) t=some (a.tmps.getD t undef):=fun c=>by
    have b:=r0h (a:=a) c;cases y with
    | tmp s =>
      rw[D2,RZ];by_cases e:s=t
      ·subst e; simp
      ·rw[if_neg e]; exact b
    | _=>exact b
   grind[D2,RZ]
theorem I3{a:Act}{xs:List Operand}{x:Operand}(h:x∈xs):ev (D2 a xs) x=some (a.eval x):=by
 cases x with
 | tmp t=>exact r0h h
 | _=>rfl
def L4(X:Cx)(G:Gh)(a:Act)(op:Op)(ty:TypeId)(av:AV):Prop :=
 ∃v,(∀dst pos after g,(execOp a.eval ⟨dst,op,ty,pos,after,g⟩).run X.P G.w=.ok (.value v) G.w)/\AVR G av v
theorem B5{X:Cx}{G:Gh}{a:Act}{st:St}{f:Op}{ty:TypeId}{av:AV}{v:Value}(j:EnvR X.n G st.e a)(xs:List Operand)(h:F6 X.P X.n (D2 a xs) f ty G.w v G.w)(i:AVR G av v):L4 X G a f ty av :=
 ⟨v,fun c d b g=>h a c d b g (Yc j xs),i⟩
def Cb:AV->Option (List AV)
 | .agg xs=>bif xs.all Sq then some xs else none
 | a=>bif Sq a then some [a] else none
theorem Sy:∀{us:List Value},(∀u∈us,u.oneCell'=true)->ones us=true
 | [],_=>rfl
 | u :: r,h=>by
   have c:=h u (by simp);have a:=Sy (us:=r) (fun v b=>h v (by grind))
   grind[ones,Value.oneCell']
theorem AVRs.ones{G:Gh}:∀{as:List AV} {us:List Value},AVRs G as us->as.all Sq=true->∀u∈us,u.oneCell'=true
 | [],us,h,_,u,hu=>by rw[show us=[] from h] at hu; cases hu
 | a :: r,us,⟨u,us',e,h1,h2⟩,ho,x,hx=>by
   simp only[List.all_cons,ba] at ho;rw[e] at hx;rcases List.mem_cons.1 hx with rfl | hx
   ·exact h1.one ho.1
   ·exact AVRs.ones h2 ho.2 x hx
theorem w0p{u:Value}(h:u.oneCell'=true):u.cells.toList=[u]:=by cases u <;> first | rfl | cases h
theorem Kq{G:Gh}{a:AV}{cs:List AV}{u:Value}(h:Cb a=some cs)(c:AVR G a u):AVRs G cs u.cells.toList/\ones u.cells.toList=true:=by
 unfold Cb at h;split at h
 ·rename_i g;rw[ce] at h;split at h
  ·rename_i d;simp at h; subst h;obtain⟨e,rfl,b⟩:=c;simp only[Value.cells,List.toList_toArray];exact⟨b,Sy (b.ones d)⟩
  grind
 ·rw[ce] at h;split at h
  ·rename_i d;simp at h; subst h;have b:=c.one d;rw[w0p b];exact⟨⟨u,[],rfl,c,rfl⟩,Sy (fun v f=>by grind)⟩
  grind
def Kr(ti:TI)(cs:List AV):Option AV :=
 bif isAgg ti.kd then(bif Nat.ble ti.size cs.length then some (.agg (cs.take ti.size)) else none)
 else match cs with
  | c :: _=>some c
  | []=>none
theorem Yd{w:World}{b o:Nat}{us:List Value}(h:At w b o us)(k:Nat):At w b o (us.take k):=by
 intro i u c;rcases Nat.lt_or_ge i k with a | a
 ·rw[List.getElem?_take_of_lt a] at c; exact h i u c
 grind
theorem Ye{w:World}{b o:Nat}{us:List Value}(h:At w b o us)(k:Nat):At w b (o+k) (us.drop k):=by
 intro i u a;rw[List.getElem?_drop] at a;have:=h (k+i) u a
 grind
theorem q0K{X:Cx}{G:Gh}{a:Act}{st:St}{T:TypeId}{d:TI}{x:Operand}{b o:Nat}{us:List Value}{cs:List AV}{av:AV}{ty:TypeId}(q:EnvR X.n G st.e a)(l:Ih X.P T d)
  (z:a.eval x=.pointer (some ⟨b,o,none⟩)) (i:At G.w b o us) (k:AVRs G cs us) (h:Kr d cs=some av):L4 X G a (.load T x) ty av:=by
 obtain⟨hi,y,_,_,j⟩:=l;have j:=C0g j;have g:ev (D2 a [x]) x=some (.pointer (some ⟨b,o,none⟩)):=by grind[I3]
 unfold Kr at h;rw[ce] at h;split at h
 ·rename_i s;rw[ce] at h;split at h
  ·rename_i f;simp at h; subst h;have f:=Nat.le_of_ble_eq_true f
   haveI:Sf X.P T:=⟨j.1 s⟩
   haveI:Info X.P T d.size d.bytes d.zero:=⟨hi⟩
   have m:=k.len;exact B5 q [x] (r0W g (by grind) (Yd i d.size)) ⟨us.take d.size,rfl,(k.take _).1⟩
  grind
 ·rename_i s;split at h
  ·rename_i c r;simp at h; subst h
   haveI:Sc X.P T:=⟨j.2 (by grind)⟩
   obtain⟨u,t,rfl,v,_⟩:=k;exact B5 q [x] (u0G g (by simpa using i 0 u rfl)) v
  grind
def Yf(a b:Operand)(x y z:Bool):Bool:=match b with
 | .const (.bool false)=>x&&y
 | _=>match a with
   | .const (.bool true)=>x||z
   | _=>bif x then y else z
theorem evB{st:St}{p:Pa}{v:Bool}{f:Bool}{y:Bool}(h:rd st p (.const (.bool v))=some (.d f .bool y)):y=v:=by
 grind[rd,Ss,Oh]
theorem v0s{st:St}{p q:Pa}{a b:Operand}{f g x y z:Bool}(c:rd st p a=some (.d f .bool y))(e:rd st q b=some (.d g .bool z)):Yf a b x y z=bif x then y else z:=by
 unfold Yf
 grind[evB]
def DT(k:IntKind)(r:Int):Prop:=lo k<=r/\r<=hi k
def CQ(k k':IntKind)(r:Bool):Option (Prop×AV):=bif decide (k=k') then some (True,.d true .bool r) else none
def Sz(a b:Int):Bool:=a==b
def neI(a b:Int):Bool:=a != b
def ltI(a b:Int):Bool:=decide (a<b)
def leI(a b:Int):Bool:=decide (a<=b)
def N0v(a b:Int):Option (Prop×AV):=some (DT .i64 (a+b),.d true (.int .i64) (a+b))
def M0h(a b:Int):Option (Prop×AV):=some (DT .i64 (a-b),.d true (.int .i64) (a-b))
def N0g(a b:Int):Option (Prop×AV):=some (DT .i64 (a*b),.d true (.int .i64) (a*b))
def M0x(a b:Int):Option (Prop×AV):=some (0<b,.d true (.int .i64) (a.tdiv b))
def M0k(a b:Int):Option (Prop×AV):=some (0<b,.d true (.int .i64) (a.tmod b))
def M0i(a b:Int):Option (Prop×AV):=some ((0<=b/\b<=62)/\DT .i64 (a*2 ^ b.toNat),.d true (.int .i64) (a*2 ^ b.toNat))
def SA(k:IntKind)(a b:Int):Option (Prop×AV):=some ((0<=b/\b<=62)/\DT k (a.fdiv (2 ^ b.toNat)),.d true (.int k) (a.fdiv (2 ^ b.toNat)))
def SB(a b:ByteArray):Bool:=decide (a=b)
def N0u(a b:ByteArray):Option (Prop×AV):=some (a.size+b.size<=9223372036854775807,.d true .str (a++b))
def Ii:List AV->List AV->Option Bool
 | [],[]=>some true
 | .d _ (.int k) a :: r,.d _ (.int k') b :: s=>bif decide (k=k') then(match Ii r s with | some e=>some (Sz a b&&e) | none=>none) else none
 | _,_=>none
def SC(ti:Option TI)(xs ys:List AV):Option Bool:=match ti with
 | some ⟨_,_,_,.agg pl true _,_⟩=>bif Nat.beq pl.length xs.length then Ii xs ys else none
 | _=>none
def SD(k:IntKind)(a b:Int):Option (Prop×AV):=some (0<=a/\0<=b,.d true (.int k) ((a.toNat &&& b.toNat:Nat):Int))
def Oj(ti:Option TI):BinOp->AV->AV->Option (Prop×AV)
 | .eql,.d _ (.int k) a,.d _ (.int k') b=>CQ k k' (Sz a b)
 | .neq,.d _ (.int k) a,.d _ (.int k') b=>CQ k k' (neI a b)
 | .lss,.d _ (.int k) a,.d _ (.int k') b=>CQ k k' (ltI a b)
 | .leq,.d _ (.int k) a,.d _ (.int k') b=>CQ k k' (leI a b)
 | .gtr,.d _ (.int k) a,.d _ (.int k') b=>CQ k k' (ltI b a)
 | .geq,.d _ (.int k) a,.d _ (.int k') b=>CQ k k' (leI b a)
 | .add,.d _ (.int .i64) a,.d _ (.int .i64) b=>N0v a b
 | .sub,.d _ (.int .i64) a,.d _ (.int .i64) b=>M0h a b
 | .mul,.d _ (.int .i64) a,.d _ (.int .i64) b=>N0g a b
 | .quo,.d _ (.int .i64) a,.d _ (.int .i64) b=>M0x a b
 | .rem,.d _ (.int .i64) a,.d _ (.int .i64) b=>M0k a b
 | .eql,.d _ .str a,.d _ .str b=>some (True,.d true .bool (SB a b))
 | .neq,.d _ .str a,.d _ .str b=>some (True,.d true .bool (!SB a b))
 | .add,.d _ .str a,.d _ .str b=>N0u a b
 | .eql,.d _ .bool a,.d _ .bool b=>match ti with
   | some ⟨_,_,_,.bool,_⟩=>some (True,.d true .bool (a==b))
   | _=>none
 | .neq,.d _ .bool a,.d _ .bool b=>match ti with
   | some ⟨_,_,_,.bool,_⟩=>some (True,.d true .bool (!(a==b)))
   | _=>none
 | .shl,.d _ (.int .i64) a,.d _ (.int _) b=>M0i a b
 | .shr,.d _ (.int .i64) a,.d _ (.int _) b=>SA .i64 a b
 | .shr,.d _ (.int .u64) a,.d _ (.int _) b=>SA .u64 a b
 | .eql,.agg xs,.agg ys=>match SC ti xs ys with
   | some e=>some (True,.d true .bool e)
   | none=>none
 | .neq,.agg xs,.agg ys=>match SC ti xs ys with
   | some e=>some (True,.d true .bool (!e))
   | none=>none
 | .add,.d _ (.int .u8) a,.d _ (.int .u8) b=>some (DT .u8 (a+b),.d true (.int .u8) (a+b))
 | .sub,.d _ (.int .u8) a,.d _ (.int .u8) b=>some (DT .u8 (a-b),.d true (.int .u8) (a-b))
 | .eql,.d _ (.pt _) _,.v (.pointer none)=>match ti with
   | some ⟨_,_,_,.ptr,_⟩=>some (True,.d true .bool false)
   | _=>none
 | .neq,.d _ (.pt _) _,.v (.pointer none)=>match ti with
   | some ⟨_,_,_,.ptr,_⟩=>some (True,.d true .bool true)
   | _=>none
 | .eql,.v (.pointer none),.v (.pointer none)=>match ti with
   | some ⟨_,_,_,.ptr,_⟩=>some (True,.d true .bool true)
   | _=>none
 | .neq,.v (.pointer none),.v (.pointer none)=>match ti with
   | some ⟨_,_,_,.ptr,_⟩=>some (True,.d true .bool false)
   | _=>none
 | .and,.d _ (.int .i64) a,.d _ (.int .i64) b=>SD .i64 a b
 | .and,.d _ (.int .u64) a,.d _ (.int .u64) b=>SD .u64 a b
 | .add,.d _ (.int .u64) a,.d _ (.int .u64) b=>some (True,.d true (.int .u64) ((a+b) % 18446744073709551616))
 | .mul,.d _ (.int .u64) a,.d _ (.int .u64) b=>some (True,.d true (.int .u64) ((a*b) % 18446744073709551616))
 | _,_,_=>none
theorem D6{G:Gh}{fr:Bool}{k:IntKind}{x:Int}{u:Value}(h:AVR G (.d fr (.int k) x) u):u=.int k x/\lo k<=x/\x<=hi k:=⟨by have:=h.1; simpa using this,h.2⟩
theorem Bs{G:Gh}{fr:Bool}{x:Bool}{u:Value}(h:AVR G (.d fr .bool x) u):u=.bool x:=by have:[u]=_:=h; simpa using this
theorem SE{G:Gh}{fr:Bool}{s:ByteArray}{u:Value}(h:AVR G (.d fr .str s) u):u=.string s/\s.size<=9223372036854775807:=⟨by have:=h.1; simpa using this,h.2⟩
theorem D0L{i j:Int}(b:R6 j)(a:0<j):R6 (i.tmod j):=by
 have d:=Int.tmod_lt_of_pos i a;have c : -j<i.tmod j:=by
  have:=Int.tmod_lt_of_pos (-i) a;rw[Int.neg_tmod] at this; omega
 grind[R6]
theorem SG(k:IntKind){n:Int}(h:lo k<=n/\n<=hi k):k.wrap n=n:=by
 cases k <;> simp only[lo,hi] at h
 ·grind[IntWalk.i8_in]
 ·grind[IntWalk.i16_in]
 ·grind[IntWalk.i32_in]
 ·grind[IntWalk.i64_in]
 ·grind[IntWalk.u8_in]
 ·grind[IntWalk.u16_in]
 ·grind[IntWalk.u32_in]
 grind[IntWalk.u64_in]
theorem y0i{P:Program}{n:Nat}{e:D1}{w:World}{T T' ty:TypeId}{x y:Operand}{k:IntKind}{a b:Int}(h:ev e x=some (.int .i64 a))(j:ev e y=some (.int k b))(m:0<=b/\b<=62)(i:lo .i64<=a*2 ^ b.toNat/\a*2 ^ b.toNat<=hi .i64) :
  F6 P n e (.binOp .shl T x y T') ty w (.int .i64 (a*2 ^ b.toNat)) w:=by
 intro r f l c g d;have o:¬b<0:=by omega
 have q:min b.toNat IntKind.i64.bits=b.toNat:=Nat.min_eq_left (by show b.toNat<=64; omega);simp only[execOp,d.ev h,d.ev j];simp[eqGuard,binOp,SG .i64 i]
theorem q0d{P:Program}{n:Nat}{e:D1}{w:World}{T T' ty:TypeId}{x y:Operand}{k c:IntKind}{a b:Int}(l:ev e x=some (.int c a))(m:ev e y=some (.int k b))(q:0<=b/\b<=62)(s:64<=c.bits) :
  F6 P n e (.binOp .shr T x y T') ty w (.int c (a.fdiv (2 ^ b.toNat))) w:=by
 intro r j o d g f;have h:¬b<0:=by omega
 have i:min b.toNat c.bits=b.toNat:=Nat.min_eq_left (by omega);simp only[execOp,f.ev l,f.ev m];simp[eqGuard,binOp,Op.shift,h,i]
theorem u0H{P:Program}{n:Nat}{e:D1}{w:World}{T T' ty:TypeId}{x y:Operand}{a b r:Int}{c:BinOp}(k:ev e x=some (.int .u8 a))(m:ev e y=some (.int .u8 b))(i:(c=.add/\r=a+b)∨(c=.sub/\r=a-b))(l:lo .u8<=r/\r<=hi .u8) :
  F6 P n e (.binOp c T x y T') ty w (.int .u8 r) w:=by
 intro q j o d g h;simp only[execOp,h.ev k,h.ev m];have f:=SG .u8 l;rcases i with ⟨rfl,rfl⟩ | ⟨rfl,rfl⟩
 ·simp[eqGuard,binOp,Op.intArith,f]
 ·simp[eqGuard,binOp,Op.intArith,f]
theorem q0e{P:Program}{n:Nat}{e:D1}{w:World}{T T' ty:TypeId}{x y:Operand}{k:IntKind}{a b:Int}(j:k=.i64∨k=.u64)(z:ev e x=some (.int k a))(E:ev e y=some (.int k b))(r:0<=a/\a<=hi k)(l:0<=b/\b<=hi k) :
  F6 P n e (.binOp .and T x y T') ty w (.int k ((a.toNat &&& b.toNat:Nat):Int)) w/\0<=((a.toNat &&& b.toNat:Nat):Int)/\((a.toNat &&& b.toNat:Nat):Int)<=hi k:=by
 have u:((a.toNat &&& b.toNat:Nat):Int)<=a:=by
  have:=Nat.and_le_left (n:=a.toNat) (m:=b.toNat);omega
 have t:(0:Int)<=((a.toNat &&& b.toNat:Nat):Int):=Int.natCast_nonneg _;have d:∀x:Int,x<=hi k->x<18446744073709551616:=fun x h=>by
  rcases j with rfl | rfl
  ·have:hi .i64=9223372036854775807:=rfl;omega
  ·have:hi .u64=18446744073709551615:=rfl;omega
 have i:lo k<=((a.toNat &&& b.toNat:Nat):Int):=by
  rcases j with rfl | rfl
  ·have:lo .i64 = -9223372036854775808:=rfl;omega
  ·have:lo .u64=0:=rfl;omega
 have q:=SG k ⟨i,(by omega:((a.toNat &&& b.toNat:Nat):Int)<=hi k)⟩;refine⟨?_,t,by omega⟩;intro G v F f g c;simp only[execOp,c.ev z,c.ev E];have o:a % 18446744073709551616=a:=Int.emod_eq_of_lt r.1 (d a r.2);have s:b % 18446744073709551616=b:=Int.emod_eq_of_lt l.1 (d b l.2);rcases j with rfl | rfl
 ·simp[eqGuard,binOp,Op.intBits,show IntKind.bits .i64=64 from rfl,o,s,q]
 ·simp[eqGuard,binOp,Op.intBits,show IntKind.bits .u64=64 from rfl,o,s,q]
theorem q0c{P:Program}{n:Nat}{e:D1}{w:World}{T T' ty:TypeId}{x y:Operand}{a b r:Int}{c:BinOp}(k:ev e x=some (.int .u64 a))(l:ev e y=some (.int .u64 b))(i:(c=.add/\r=a+b)∨(c=.mul/\r=a*b)) :
  F6 P n e (.binOp c T x y T') ty w (.int .u64 (r % 18446744073709551616)) w:=by
 intro o j m d g h;simp only[execOp,h.ev k,h.ev l];have f:IntKind.wrap .u64 r=r % 18446744073709551616:=by
  unfold IntKind.wrap;simp[IntKind.signed,IntKind.bits]
 rcases i with ⟨rfl,rfl⟩ | ⟨rfl,rfl⟩
 ·simp[eqGuard,binOp,Op.intArith,f]
 ·simp[eqGuard,binOp,Op.intArith,f]
theorem v0Y{P:Program}{w:World}{G:Gh}{d:Nat}{xs c:Array Value}:∀{fs:List Field} {k:Nat} {as bs:List AV} {e:Bool},Sw P k fs=true->fs.length=as.length->Ii as bs=some e->AVRs G as (xs.toList.drop k)->AVRs G bs (c.toList.drop k) ->
  (Op.eqFields (d+1) xs c fs).run P w=.ok e w
 | [],k,[],bs,e,_,_,h,_,_=>by
   cases bs with
   | nil=>simp only[Ii,oi] at h; subst h; simp[Op.eqFields]
   | cons b r=>grind[Ii]
 | f :: r,k,a :: as,bs,e,hf,hl,h,hx,hy=>by
   unfold Ii at h;split at h
   ·grind
   ·rename_i g q x W g' q' y aA e1;cases e1;rw[ce] at h;split at h
    ·rename_i m;have m:q=q':=by simpa using m
     subst m;split at h
     ·rename_i e' o;simp only[oi] at h; subst h;simp only[Sw,ba,dq] at hf;obtain⟨⟨⟨Y,j⟩,hi⟩,Q⟩:=hf;have j:=nb j;obtain⟨u,t,E,T,s⟩:=hx;obtain⟨v,z,ev,F,l⟩:=hy;obtain⟨rfl,_⟩:=D6 T;obtain⟨rfl,_⟩:=D6 F;have X:xs[f.offset]?=some (.int q x):=by
       have:(xs.toList.drop k)[0]?=some (.int q x):=by rw[E]; rfl
       rw[List.getElem?_drop] at this;rw[j]; simpa using this
      have gy:c[f.offset]?=some (.int q y):=by
       have:(c.toList.drop k)[0]?=some (.int q y):=by rw[ev]; rfl
       rw[List.getElem?_drop] at this;rw[j]; simpa using this
      have dx:t=xs.toList.drop (k+1):=by
       have:(xs.toList.drop k).drop 1=t:=by rw[E]; rfl
       rw[List.drop_drop] at this; exact this.symm
      have dy:z=c.toList.drop (k+1):=by
       have:(c.toList.drop k).drop 1=z:=by rw[ev]; rfl
       rw[List.drop_drop] at this; exact this.symm
      subst dx; subst dy;have ih:=v0Y (w:=w) (d:=d) Q (by simpa using hl) o s l;unfold N0k at hi;split at hi
      ·rename_i H i;have p1:(part f.type xs f.offset).run P w=.ok (.int q x) w:=by simp[part,Go.isAgg,run_underlying i,X]
       have p2:(part f.type c f.offset).run P w=.ok (.int q y) w:=by simp[part,Go.isAgg,run_underlying i,gy]
       have V:=run_equalIn_int w d f.type q H x y i;simp only[Op.eqFields,Y,ne_eq,not_false_eq_true,if_true,Sem.run_bind,p1,p2,V,Result.andThen_ok];by_cases n:x=y
       ·grind[Sz]
       ·simp[Sz,n]
      grind
     grind
    grind
   grind
theorem y0p{P:Program}{n:Nat}{l:D1}{w:World}{G:Gh}{T T' ty:TypeId}{x y:Operand}{us vs:List Value}{k z:List AV}{e:Bool}{pl:List (Nat×Nat)}(s:ev l x=some (.agg us.toArray))(t:ev l y=some (.agg vs.toArray))
  (Y:AVRs G k us) (F:AVRs G z vs) {H:List Bool} (W:Sx P T (.agg pl true H)) (E:pl.length=k.length) (h:Ii k z=some e) :
  F6 P n l (.binOp .eql T x y T') ty w (.bool e) w/\F6 P n l (.binOp .neq T x y T') ty w (.bool (!e)) w:=by
 obtain⟨_,j,_,_,c,_⟩:=W;have c:=c rfl;unfold Ya at c;split at c
 ·rename_i u r;simp only[ba,Bool.not_eq_true'] at c;obtain⟨⟨V,v⟩,Q⟩:=c;have o:P.fieldsOf T=u:=by unfold Program.fieldsOf; rw[r]
  have f:u.toList.length=k.length:=by
   unfold Kl at j;rw[r] at j;simp only[oi] at j;rw[<- E,<- j,List.length_map]
  have i:(Op.equalIn 10000 T (.agg us.toArray) (.agg vs.toArray)).run P w=.ok e w:=by
   rw[run_equalIn_struct w 9999 T _ _ (by grind) V,o];exact v0Y (d:=9998) Q f h Y F
  constructor
  ·intro X q m b g a;simp only[execOp,a.ev s,a.ev t];simp[run_eqGuard_agg w .eql T x y us.toArray vs.toArray v,run_eql_struct,i]
  ·intro X q m b g a;simp only[execOp,a.ev s,a.ev t];simp[run_eqGuard_agg w .neq T x y us.toArray vs.toArray v,run_neq_struct,i]
 grind
theorem k0w{X:Cx}{G:Gh}{a:Act}{st:St}{T T' ty:TypeId}{i:Option TI}{x y:Operand}{j g:List AV}{e:Bool}(k:EnvR X.n G st.e a)(f:∀t,i=some t->Ih X.P T t)
  (q:AVR G (.agg j) (a.eval x)) (s:AVR G (.agg g) (a.eval y)) (h:SC i j g=some e):L4 X G a (.binOp .eql T x y T') ty (.d true .bool e)/\L4 X G a (.binOp .neq T x y T') ty (.d true .bool (!e)):=by
 have b:ev (D2 a [x,y]) x=some (a.eval x):=I3 (by simp);have c:ev (D2 a [x,y]) y=some (a.eval y):=I3 (by simp);unfold SC at h;split at h
 ·rw[ce] at h;split at h
  ·rename_i l;obtain⟨E,r,z⟩:=q;obtain⟨F,v,m⟩:=s;rw[r] at b;rw[v] at c;obtain⟨u,o⟩:=y0p (P:=X.P) (n:=X.n) (w:=G.w) (T':=T') (ty:=ty) b c z m (f _ rfl).2.2.2.2 (nb l) h;exact⟨B5 k [x,y] u rfl,B5 k [x,y] o rfl⟩
  grind
 grind
theorem k0h{P:Program}{n:Nat}{e:D1}{ty:TypeId}{w:World}{T T':TypeId}{x y:Operand}{q:Option Addr}(i:P.underlying T=some (.pointer (P.pointee T)))(f:Sv.ev e x=some (.pointer q))(h:Sv.ev e y=some (.pointer none)) :
  F6 P n e (.binOp .eql T x y T') ty w (.bool q.isNone) w:=by
 intro a d j b g c;have:=run_eql_pointer_nil w T q i;simp only[execOp,c.ev f,c.ev h];simp[eqGuard,this,Result.andThen]
theorem k0g{P:Program}{n:Nat}{e:D1}{ty:TypeId}{w:World}{T T':TypeId}{x y:Operand}{q:Option Addr}(i:P.underlying T=some (.pointer (P.pointee T)))(f:Sv.ev e x=some (.pointer q))(h:Sv.ev e y=some (.pointer none)) :
  F6 P n e (.binOp .neq T x y T') ty w (.bool (!q.isNone)) w:=by
 intro a d j b g c;have:=run_neq_pointer_nil w T q i;simp only[execOp,c.ev f,c.ev h];simp[eqGuard,this,Result.andThen]
theorem s0A{X:Cx}{G:Gh}{a:Act}{st:St}{op:BinOp}{T T' ty:TypeId}{ti:Option TI}{x y:Operand}{u v r:AV}{q:Prop}(z:EnvR X.n G st.e a)(Q:∀t,ti=some t->Ih X.P T t)
  (H:AVR G u (a.eval x)) (F:AVR G v (a.eval y)) (h:Oj ti op u v=some (q,r)) (E:q):L4 X G a (.binOp op T x y T') ty r:=by
 have l:ev (D2 a [x,y]) x=some (a.eval x):=I3 (by simp);have c:ev (D2 a [x,y]) y=some (a.eval y):=I3 (by simp);have V:∀{o:BinOp} {f g:Bool} {k k':IntKind} {i j:Int} {aA:Bool} {q':Prop} {r':AV},u=.d f (.int k) i->v=.d g (.int k') j->CQ k k' aA=some (q',r')->XQ o i j=some aA->op=o->r'=r ->
   L4 X G a (.binOp op T x y T') ty r:=by
  intro o f g k k' i j aA q' r' e1 e2 hb hc ho hr;subst e1; subst e2;unfold CQ at hb;rw[ce] at hb;split at hb
  ·rename_i hk;have hk:k=k':=by simpa using hk
   subst hk;simp only[oi,pj] at hb;obtain⟨_,rfl⟩:=hb;obtain⟨m,_⟩:=D6 H;obtain⟨s,_⟩:=D6 F;rw[m] at l;rw[s] at c;refine B5 z [x,y] (v:=.bool aA) (BZ ?_) ?_
   ·grind[AL,Oc]
   ·rw[<- hr]; exact rfl
  ·cases hb
 have ar:∀{f g:Bool} {i j:Int},u=.d f (.int .i64) i->v=.d g (.int .i64) j->ev (D2 a [x,y]) x=some (.int .i64 i)/\ev (D2 a [x,y]) y=some (.int .i64 j)/\R6 i/\R6 j:=by
  intro f g i j e1 e2;subst e1; subst e2;obtain⟨m,W⟩:=D6 H;obtain⟨s,Y⟩:=D6 F;rw[m] at l;rw[s] at c;exact⟨l,c,W,Y⟩
 have sr:∀{f g:Bool} {i j:ByteArray},u=.d f .str i->v=.d g .str j->ev (D2 a [x,y]) x=some (.string i)/\ev (D2 a [x,y]) y=some (.string j):=by
  intro f g i j e1 e2;subst e1; subst e2;rw[(SE H).1] at l;rw[(SE F).1] at c;exact⟨l,c⟩
 have br:∀{f g i j:Bool},u=.d f .bool i->v=.d g .bool j->ev (D2 a [x,y]) x=some (.bool i)/\ev (D2 a [x,y]) y=some (.bool j):=by
  intro f g i j e1 e2;subst e1; subst e2;rw[Bs H] at l;rw[Bs F] at c;exact⟨l,c⟩
 unfold Oj at h;split at h
 ·exact V rfl rfl h rfl rfl rfl
 ·exact V rfl rfl h rfl rfl rfl
 ·exact V rfl rfl h rfl rfl rfl
 ·exact V rfl rfl h rfl rfl rfl
 ·exact V rfl rfl h rfl rfl rfl
 ·exact V rfl rfl h rfl rfl rfl
 ·simp only[N0v,oi,pj] at h;obtain⟨rfl,rfl⟩:=h;obtain⟨m,s,_⟩:=ar rfl rfl;exact B5 z [x,y] (y0r m s E) ⟨rfl,E⟩
 ·simp only[M0h,oi,pj] at h;obtain⟨rfl,rfl⟩:=h;obtain⟨m,s,_⟩:=ar rfl rfl;exact B5 z [x,y] (y0h m s E) ⟨rfl,E⟩
 ·simp only[N0g,oi,pj] at h;obtain⟨rfl,rfl⟩:=h;obtain⟨m,s,_⟩:=ar rfl rfl;exact B5 z [x,y] (y0n m s E) ⟨rfl,E⟩
 ·simp only[M0x,oi,pj] at h;obtain⟨rfl,rfl⟩:=h;obtain⟨m,s,h3,_⟩:=ar rfl rfl;exact B5 z [x,y] (y0k m s h3 E) ⟨rfl,u0k h3 E⟩
 ·simp only[M0k,oi,pj] at h;obtain⟨rfl,rfl⟩:=h;obtain⟨m,s,h3,h4⟩:=ar rfl rfl;exact B5 z [x,y] (y0j m s (by omega)) ⟨rfl,D0L h4 E⟩
 ·simp only[oi,pj] at h;obtain⟨rfl,rfl⟩:=h;obtain⟨m,s⟩:=sr rfl rfl;exact B5 z [x,y] (BZ (by grind[AL,Oc,Sb,SB])) rfl
 ·simp only[oi,pj] at h;obtain⟨rfl,rfl⟩:=h;obtain⟨m,s⟩:=sr rfl rfl;exact B5 z [x,y] (BZ (by grind[AL,Oc,Sb,SB])) rfl
 ·simp only[N0u,oi,pj] at h;obtain⟨rfl,rfl⟩:=h;obtain⟨m,s⟩:=sr rfl rfl;exact B5 z [x,y] (y0q m s E) ⟨rfl,by grind⟩
 ·split at h
  ·simp only[oi,pj] at h;obtain⟨rfl,rfl⟩:=h;obtain⟨m,s⟩:=br rfl rfl
   haveI:Km X.P T:=⟨(Q _ rfl).2.2.2.2.2⟩
   exact B5 z [x,y] (y0o m s) rfl
  grind
 ·split at h
  ·simp only[oi,pj] at h;obtain⟨rfl,rfl⟩:=h;obtain⟨m,s⟩:=br rfl rfl
   haveI:Km X.P T:=⟨(Q _ rfl).2.2.2.2.2⟩
   exact B5 z [x,y] (y0m m s) rfl
  grind
 ·simp only[M0i,oi,pj] at h;obtain⟨rfl,rfl⟩:=h;obtain⟨m,_⟩:=D6 H;obtain⟨s,_⟩:=D6 F;rw[m] at l;rw[s] at c;exact B5 z [x,y] (y0i l c E.1 E.2) ⟨rfl,E.2⟩
 ·simp only[SA,oi,pj] at h;obtain⟨rfl,rfl⟩:=h;obtain⟨m,_⟩:=D6 H;obtain⟨s,_⟩:=D6 F;rw[m] at l;rw[s] at c;exact B5 z [x,y] (q0d l c E.1 (Nat.le_refl 64)) ⟨rfl,E.2⟩
 ·simp only[SA,oi,pj] at h;obtain⟨rfl,rfl⟩:=h;obtain⟨m,_⟩:=D6 H;obtain⟨s,_⟩:=D6 F;rw[m] at l;rw[s] at c;exact B5 z [x,y] (q0d l c E.1 (Nat.le_refl 64)) ⟨rfl,E.2⟩
 ·grind[oi,pj,k0w]
 ·split at h
  ·rename_i he;simp only[oi,pj] at h;obtain⟨rfl,rfl⟩:=h;exact(k0w z Q H F he).2
  grind
 ·simp only[oi,pj] at h;obtain⟨rfl,rfl⟩:=h;obtain⟨m,_⟩:=D6 H;obtain⟨s,_⟩:=D6 F;rw[m] at l;rw[s] at c;exact B5 z [x,y] (u0H l c (.inl ⟨rfl,rfl⟩) E) ⟨rfl,E⟩
 ·simp only[oi,pj] at h;obtain⟨rfl,rfl⟩:=h;obtain⟨m,_⟩:=D6 H;obtain⟨s,_⟩:=D6 F;rw[m] at l;rw[s] at c;exact B5 z [x,y] (u0H l c (.inr ⟨rfl,rfl⟩) E) ⟨rfl,E⟩
 ·split at h
  ·simp only[oi,pj] at h;obtain⟨rfl,rfl⟩:=h;obtain⟨b,o,ds,m,_⟩:=H;simp only[List.cons.injEq,and_true] at m;have s:a.eval y=.pointer none:=F;rw[m] at l;rw[s] at c;exact B5 z [x,y] (k0h (Q _ rfl).2.2.2.2.2 l c) rfl
  grind
 ·split at h
  ·simp only[oi,pj] at h;obtain⟨rfl,rfl⟩:=h;obtain⟨b,o,ds,m,_⟩:=H;simp only[List.cons.injEq,and_true] at m;have s:a.eval y=.pointer none:=F;rw[m] at l;rw[s] at c;exact B5 z [x,y] (k0g (Q _ rfl).2.2.2.2.2 l c) rfl
  grind
 ·split at h
  ·simp only[oi,pj] at h;obtain⟨rfl,rfl⟩:=h;have m:a.eval x=.pointer none:=H;have s:a.eval y=.pointer none:=F;rw[m] at l;rw[s] at c;exact B5 z [x,y] (k0h (Q _ rfl).2.2.2.2.2 l c) rfl
  grind
 ·split at h
  ·simp only[oi,pj] at h;obtain⟨rfl,rfl⟩:=h;have m:a.eval x=.pointer none:=H;have s:a.eval y=.pointer none:=F;rw[m] at l;rw[s] at c;exact B5 z [x,y] (k0g (Q _ rfl).2.2.2.2.2 l c) rfl
  grind
 ·simp only[SD,oi,pj] at h;obtain⟨rfl,rfl⟩:=h;obtain⟨m,W⟩:=D6 H;obtain⟨s,Y⟩:=D6 F;rw[m] at l;rw[s] at c;obtain⟨hr,aB,aC⟩:=q0e (P:=X.P) (n:=X.n) (w:=G.w) (T:=T) (T':=T') (ty:=ty) (.inl rfl) l c ⟨E.1,W.2⟩ ⟨E.2,Y.2⟩;have h0:lo .i64<=0:=by decide
  exact B5 z [x,y] hr ⟨rfl,Int.le_trans h0 aB,aC⟩
 ·simp only[SD,oi,pj] at h;obtain⟨rfl,rfl⟩:=h;obtain⟨m,W⟩:=D6 H;obtain⟨s,Y⟩:=D6 F;rw[m] at l;rw[s] at c;obtain⟨hr,aB,aC⟩:=q0e (P:=X.P) (n:=X.n) (w:=G.w) (T:=T) (T':=T') (ty:=ty) (.inr rfl) l c ⟨E.1,W.2⟩ ⟨E.2,Y.2⟩;have h0:lo .u64<=0:=by decide
  exact B5 z [x,y] hr ⟨rfl,Int.le_trans h0 aB,aC⟩
 ·simp only[oi,pj] at h;obtain⟨rfl,rfl⟩:=h;obtain⟨m,_⟩:=D6 H;obtain⟨s,_⟩:=D6 F;rw[m] at l;rw[s] at c;exact B5 z [x,y] (q0c l c (.inl ⟨rfl,rfl⟩)) ⟨rfl,Int.emod_nonneg _ (by decide),Int.le_of_lt_add_one (Int.emod_lt_of_pos _ (by decide))⟩
 ·simp only[oi,pj] at h;obtain⟨rfl,rfl⟩:=h;obtain⟨m,_⟩:=D6 H;obtain⟨s,_⟩:=D6 F;rw[m] at l;rw[s] at c;exact B5 z [x,y] (q0c l c (.inr ⟨rfl,rfl⟩)) ⟨rfl,Int.emod_nonneg _ (by decide),Int.le_of_lt_add_one (Int.emod_lt_of_pos _ (by decide))⟩
 grind
def B8{β:Type}:List β->Nat->Option β
 | [],_=>none
 | x :: _,0=>some x
 | _ :: r,n+1=>B8 r n
theorem X3{a:Type}:∀(l:List a) (n:Nat),B8 l n=l[n]?
 | [],_=>by simp[B8]
 | _ :: _,0=>by simp[B8]
 | _ :: r,n+1=>by simp[B8,X3 r n]
def X4(o:List (Nat×Ob)):AV->Option (List AV×List Nat)
 | .ptr id off=>match c7 o id with
   | some (.box _ cs)=>some (cs.drop off,[id])
   | _=>none
 | .pel id ver k s off=>match c7 o id with
   | some (.arr _ fr t xs ver')=>bif Nat.beq ver ver'&&Nat.beq s (sz t) then some ((p8 fr t (xs.getD k (b7 t))).drop off,[id]) else none
   | _=>none
 | .d fr (.pt t) x=>some (p8 fr t x,[])
 | _=>none
def Cc(o:List (Nat×Ob)):AV->Prop
 | .pel id _ k _ _=>match c7 o id with
   | some (.arr _ _ _ xs _)=>k<xs.length
   | _=>True
 | _=>True
theorem u0U{w:World}{T:TypeId}{s n b f o j i:Nat}{v:Value}{cs:List Value}(h:Own w T s (some b) v n cs)(g:v=.slice (some ⟨f,o,none⟩) j i){k:Nat}{c pre post:List Value}(e:cs=pre++c++post)(q:pre.length=k*s):b=f/\At w b (o+k*s) c:=by
 obtain⟨l,m,d,a⟩:=h.at;rw[g] at d;cases d;rw[e] at a;have:=a.mid
 grind
theorem Yg{X:Cx}{G:Gh}(S:Sat X G){p:AV}{u:Value}{cs:List AV}{l:List Nat}(h:X4 G.o p=some (cs,l))(hq:Cc G.o p)(v:AVR G p u):∃b o us,u=.pointer (some ⟨b,o,none⟩)/\At G.w b o us/\AVRs G cs us:=by
 unfold X4 at h;split at h
 ·rename_i id a;split at h
  ·rename_i T aF f;simp only[oi,pj] at h;obtain⟨rfl,rfl⟩:=h;obtain⟨_,b,r,rfl⟩:=v;obtain⟨F,us,g1,P,g3,g4⟩:=S.obs id _ f;rw[r] at P;cases P;exact⟨b,a,us.drop a,rfl,by simpa using Ye g3.at a,(g4.take a).2⟩
  grind
 ·rename_i id aG k s a;split at h
  ·rename_i T fr t E Q f;rw[ce] at h;split at h
   ·rename_i m;simp only[ba] at m;have q:=nb m.1;have z:=nb m.2;subst q; subst z;simp only[oi,pj] at h;obtain⟨rfl,rfl⟩:=h;have V:k<E.length:=by simpa only[Cc,f] using hq
    obtain⟨_,T1,aB,t1,aD,H,i,h2,h3⟩:=v;rw[f] at i;cases i;obtain⟨b,o,n,c,hr,rfl⟩:=h3 rfl;obtain⟨cs,g,hA,aA⟩:=S.obs id _ f;obtain⟨aC,c',Y,e,hp,W⟩:=hA.get (fun c x h=>RT.len h) V;cases hg:G.γ id with
    | none =>
      rw[hg] at g;rcases g with ⟨_,hn,_⟩ | ⟨F,_,_,_,r,_⟩
      ·omega
      grind
    | some F =>
      rw[hg] at g;obtain⟨y,d⟩:=u0U g hr e hp;subst y;have hD:=DS W;have j:E.getD k (b7 t)=E[k]:=by simp[V]
      rw[j];exact⟨F,o+(k*sz t+a),c'.drop a,rfl,by rw[<- Nat.add_assoc]; exact Ye d a,(hD.take a).2⟩
   grind
  grind
 ·rename_i fr t x;simp only[oi,pj] at h;obtain⟨rfl,rfl⟩:=h;obtain⟨b,o,ds,i,r,d,W⟩:=v;simp only[List.cons.injEq,and_true] at i
  grind[DS]
 grind
def SH:AV->Nat->Option AV
 | .ptr id off,k=>some (.ptr id (off+k))
 | .pel id ver i s off,k=>some (.pel id ver i s (off+k))
 | .d fr (.pt t) x,k=>Gg fr t x k
 | _,_=>none
theorem s0l{X:Cx}{G:Gh}(_:Sat X G){p r:AV}{u:Value}{k:Nat}{cs:List AV}{l:List Nat}(m:X4 G.o p=some (cs,l))(h:SH p k=some r)(g:AVR G p u):∃b o,u=.pointer (some ⟨b,o,none⟩)/\AVR G r (.pointer (some ⟨b,o+k,none⟩)):=by
 unfold SH at h;split at h
 ·simp at h; subst h;obtain⟨F,b,v,rfl⟩:=g;exact⟨b,_,rfl,F,b,v,rfl⟩
 ·rename_i id P i s E;simp at h; subst h;obtain⟨V,T,f,Q,j,a,d,w,z⟩:=g;simp only[X4,d,ce] at m;split at m
  ·rename_i q;simp only[ba] at q;have e:=nb q.1;obtain⟨b,o,n,c,y,rfl⟩:=z e;exact⟨b,_,rfl,rfl,T,f,Q,j,a,d,w,fun _=>⟨b,o,n,c,y,by grind⟩⟩
  grind
 ·rename_i Y t x;obtain⟨b,o,ds,d,v,H,W⟩:=g;simp only[List.cons.injEq,and_true] at d
  grind[o0Y]
 grind
def Ks(n:Int)(len:Nat):Prop:=0<=n/\n < (len:Int)
def Kt(Γ:p5)(o:List (Nat×Ob))(T:TypeId)(v:AV)(n:Int):Option (Prop×AV×List Nat):=match v,c7 Γ T with
 | .d fr (.sl t) xs,some ⟨_,_,_,.sl E,_⟩=>match c7 Γ E with
   | some te=>bif Nat.beq te.size (sz t) then some (Ks n xs.length,.d fr (.pt t) (xs.getD n.toNat (b7 t)),[]) else none
   | none=>none
 | .os id ver,some ⟨_,_,_,.sl E,_⟩=>match c7 Γ E,c7 o id with
   | some te,some (.arr _ _ t xs ver')=>bif Nat.beq ver ver'&&Nat.beq te.size (sz t) then some (Ks n xs.length,.pel id ver n.toNat (sz t) 0,[id]) else none
   | _,_=>none
 | .ptr id off,some ⟨_,_,_,.arr m E,_⟩=>match c7 Γ E with
   | some te=>some (Ks n m,.ptr id (off+n.toNat*te.size),[])
   | none=>none
 | .og id,some ⟨_,_,_,.sl E,_⟩=>match c7 Γ E,c7 o id with
   | some te,some (.grd _ _ _ _ xs _)=>bif Nat.beq te.size 1 then some (Ks n xs.length,.gel id n.toNat,[id]) else none
   | _,_=>none
 | _,_=>none
theorem o0v{P:Program}{n:Nat}{e:D1}{ty:TypeId}{w:World}{T E s y m k b o:Nat}{z:Value}{x ix:Operand}{v:IntKind}(h:P.underlying T=some (.array m E))[i:Info P E s y z](u:ev e x=some (.pointer (some ⟨b,o,none⟩)))(hi:ev e ix=some (.int v (k:Int)))(Q:k<m) :
  F6 P n e (.indexAddr T x ix) ty w (.pointer (some ⟨b,o+k*s,none⟩)) w:=by
 intro a t q j g l;obtain⟨r,c,F,G,H⟩:=i.get;have d:(Addr.mk b o none).add (k*s)=⟨b,o+k*s,none⟩:=by
  unfold Addr.add;split
  ·grind
  ·rfl
 have f:0<=(k:Int)/\(k:Int) < (m:Int):=oo;simp only[execOp,l.ev u,l.ev hi];simp only[Instr.indexAt,asIntOf,Sem.run_bind,run_underlying h,Instr.sureAddr,Result.andThen,Sem.run_pure,f,and_self,if_true,X1 w c,F,Int.toNat_natCast,d]
theorem v0I{X:Cx}{G:Gh}{a:Act}{st:St}{Γ:p5}(g:x7 X.P Γ)(S:Sat X G)(hE:EnvR X.n G st.e a){T ty:TypeId}{x ix:Operand}{v r:AV}{n:Int}{f:Bool}{k:IntKind}{q:Prop}{l:List Nat}
  (hx:AVR G v (a.eval x)) (hn:AVR G (.d f (.int k) n) (a.eval ix)) (h:Kt Γ G.o T v n=some (q,r,l)) (F:q):L4 X G a (.indexAddr T x ix) ty r:=by
 have j:ev (D2 a [x,ix]) x=some (a.eval x):=I3 (by simp);have y:ev (D2 a [x,ix]) ix=some (a.eval ix):=I3 (by simp);rw[(D6 hn).1] at y;unfold Kt at h;split at h
 ·rename_i fr t xs s0 y0 z0 E H Q;split at h
  ·rename_i s u;rw[ce] at h;split at h
   ·rename_i w;have w:=nb w;simp only[oi,pj] at h;obtain⟨rfl,rfl,rfl⟩:=h
    haveI:AM X.P T E:=⟨(g T _ Q).2.2.2.2.2⟩
    haveI:Info X.P E s.size s.bytes s.zero:=⟨(g E _ u).1⟩
    obtain⟨i,rfl⟩:=Int.eq_ofNat_of_zero_le F.1;have hi:i<xs.length:=by have:=F.2; omega
    obtain⟨p,W,z,_⟩:=id hx;simp only[List.cons.injEq,and_true] at z;have aA:=hx;rw[z] at aA j;obtain⟨_,b,o,c,rfl,Y,aL,hR⟩:=RT.get aA hi;refine B5 hE [x,ix] (XU j y hi) ?_;simp only[Int.toNat_natCast,gq,List.getElem?_eq_getElem hi,Option.getD_some];exact⟨b,o+i*s.size,c,rfl,Y,by grind,hR⟩
   grind
  grind
 ·rename_i id aM s0 y0 z0 E H Q;split at h
  ·rename_i s T' fr t xs aF u V;rw[ce] at h;split at h
   ·rename_i w;simp only[ba] at w;have aB:=nb w.1;have aN:=nb w.2;clear w;subst aB;simp only[oi,pj] at h;obtain⟨rfl,rfl,rfl⟩:=h
    haveI:AM X.P T E:=⟨(g T _ Q).2.2.2.2.2⟩
    haveI:Info X.P E s.size s.bytes s.zero:=⟨(g E _ u).1⟩
    obtain⟨i,rfl⟩:=Int.eq_ofNat_of_zero_le F.1;have hi:i<xs.length:=by have:=F.2; omega
    obtain⟨_,T1,aI,t1,aK,aD,h1,h2,h3⟩:=hx;rw[V] at h1;cases h1;have hu:=h3 rfl;obtain⟨cs,hO,hA,aH⟩:=S.obs id _ V;rcases hO with ⟨_,hn,_⟩ | ⟨b,o,W,cur,Y,z,_⟩
    ·omega
    ·rw[hu,z] at j;refine B5 hE [x,ix] (XU j y hi) ?_;simp only[Int.toNat_natCast];exact⟨rfl,_,_,_,_,_,V,Nat.le_refl _,fun _=>⟨b,o,_,_,z,by grind⟩⟩
   grind
  grind
 ·rename_i id aJ s0 y0 z0 m E H Q;split at h
  ·rename_i s u;simp only[oi,pj] at h;obtain⟨rfl,rfl,rfl⟩:=h
   haveI:Info X.P E s.size s.bytes s.zero:=⟨(g E _ u).1⟩
   obtain⟨i,rfl⟩:=Int.eq_ofNat_of_zero_le F.1;have hi:i<m:=by have:=F.2; omega
   obtain⟨aC,b,Y,z⟩:=hx;rw[z] at j;refine B5 hE [x,ix] (o0v (g T _ Q).2.2.2.2.2 j y hi) ?_;simp only[Int.toNat_natCast];exact⟨aC,b,Y,rfl⟩
  grind
 ·rename_i id s0 y0 z0 E H Q;split at h
  ·rename_i s T' Te fr t xs aG u V;rw[ce] at h;split at h
   ·rename_i w;have w:=nb w;simp only[oi,pj] at h;obtain⟨rfl,rfl,rfl⟩:=h
    haveI:AM X.P T E:=⟨(g T _ Q).2.2.2.2.2⟩
    haveI:Info X.P E s.size s.bytes s.zero:=⟨(g E _ u).1⟩
    obtain⟨i,rfl⟩:=Int.eq_ofNat_of_zero_le F.1;have hi:i<xs.length:=by have:=F.2; omega
    obtain⟨_,_,hu⟩:=hx;obtain⟨vs,bs,hO,_,_⟩:=S.obs id _ V;rcases hO with ⟨_,hn,_⟩ | ⟨b,o,W,cur,Y,z,_⟩
    ·omega
    ·rw[hu,z] at j;refine B5 hE [x,ix] (XU j y hi) ?_;simp only[Int.toNat_natCast,w,Nat.mul_one];exact⟨⟨_,_,_,_,_,_,V⟩,b,o,_,_,z,rfl⟩
   grind
  grind
 grind
def Gi(cs:List AV)(o:Nat)(vs:List AV):List AV:=cs.take o++vs++cs.drop (o+vs.length)
theorem Yh{G:Gh}{cs vs:List AV}{us a:List Value}{o:Nat}(h:AVRs G cs us)(k:AVRs G vs a)(_:o+vs.length<=cs.length):AVRs G (Gi cs o vs) (B3 us o a):=by
 unfold Gi B3;rw[k.len];exact AVRs.app (h.take _).2 (AVRs.app k (h.take o).1)
def AQ(st:St)(p:Pa)(pl:List (Nat×Nat)):List AV->List (Nat×Operand)->Option (List AV)
 | cs,[]=>some cs
 | cs,(i,x) :: r=>match B8 pl i with
   | some (off,s)=>match rd st p x with
     | some v=>match Cb v with
       | some vs=>bif Nat.beq vs.length s&&Nat.ble (off+vs.length) cs.length then AQ st p pl (Gi cs off vs) r else none
       | none=>none
     | none=>none
   | none=>none
theorem Yi:∀{us:List Value} {k:Nat},us.length=k->CP us k=true
 | [],0,_=>rfl
 | _ :: r,k+1,h=>Yi (us:=r) (by grind)
 | [],_+1,h=>by grind
 | _ :: _,0,h=>by grind
theorem Yj{a:Act}{xs:List Operand}:∀{ps:List (Nat×Operand)},(∀q∈ps,q.2∈xs)->evp (D2 a xs) ps=some (ps.map fun q=>(q.1,a.eval q.2))
 | [],_=>rfl
 | (i,x) :: r,h=>by
   have d:=I3 (a:=a) (h (i,x) (by simp));have b:=Yj (a:=a) (ps:=r) (fun q c=>h q (by grind))
   grind[evp]
theorem Yk{n:Nat}{G:Gh}{a:Act}{st:St}{p:Pa}{pl:List (Nat×Nat)}(k:EnvR n G st.e a)(j:PathP p a):∀{ps:List (Nat×Operand)} {cs r:List AV} {us:List Value},AQ st p pl cs ps=some r->AVRs G cs us ->
  ∃ws,Ca pl us (ps.map fun q=>(q.1,a.eval q.2))=some ws/\AVRs G r ws
 | [],cs,r,us,h,hA=>by simp[AQ] at h; subst h; exact⟨us,rfl,hA⟩
 | (i,x) :: q,cs,r,us,h,hA=>by
   unfold AQ at h;split at h
   ·rename_i c s hi;split at h
    ·rename_i v o;split at h
     ·rename_i E b;rw[ce] at h;split at h
      ·rename_i g;simp only[ba] at g;have u:=nb g.1;have d:=Nat.le_of_ble_eq_true g.2;have t:=C8 k j o;obtain⟨m,_⟩:=Kq b t;have l:=m.len;have f:=hA.len;obtain⟨ws,y,w⟩:=Yk k j h (Yh hA m d);refine⟨ws,?_,w⟩;simp only[List.map_cons];unfold Ca;rw[X3] at hi;simp only[hi];have z:(CP (a.eval x).cells.toList s&&Nat.ble (c+s) us.length)=true:=by
        rw[ba];exact⟨Yi (by omega),Nat.ble_eq_true_of_le (by omega)⟩
       grind
      grind
     grind
    grind
   grind
end Go.Proofs.Xv
end
section
namespace Go.Proofs.Sv
open Go Go.RowKit
section
variable {P:Program} {n:Nat} {e:D1} {w:World} {Q:Exit->Act->World->Prop} {l:List Oper} {fuel:Nat} {listed:Array Bool} {S:World->Prop} {ops:Array Oper} {rest:List Oper}
 {d:Nat} {op:Op} {ty:TypeId} {pos:String} {after:Array Edge}
end
section
variable {P:Program} {ops:Array Oper} {Q:Exit->Act->World->Prop} {S:World->Prop} {st:Nat}
end
section
variable {P:Program} {n:Nat} {e:D1} {w:World} {Q:Exit->Act->World->Prop} {l:List Oper} {fuel:Nat} {listed:Array Bool} {S:World->Prop} {st:Nat}
 {d:Nat} {op:Op} {ty:TypeId} {pos:String} {after:Array Edge}
end
theorem Own.set{w w':World}{E s:Nat}{g g' n m c k o:Nat}{v:Value}{cs vs:List Value}(h:Own w E s (some g) v n cs)(d:v=.slice (some ⟨g',o,none⟩) m c)(r:k<n)(l:vs.length=s)(j:∀cur:Array Value,w.heap[g]?=some (.cells cur E (0,0))->w'.heap[g]?=some (.cells (B3 cur.toList (o+k*s) vs).toArray E (0,0))) :
  Own w' E s (some g) v n (B3 cs (k*s) vs):=by
 rcases h with ⟨h,_⟩ | ⟨b,o',cap,cur,hb,hv2,h1,h2,h3,h4,rfl⟩
 ·cases h
 ·cases hb;rw[d] at hv2;cases hv2;refine .inr ⟨g,o,c,_,rfl,d,j cur h1,h2,h3,?_,?_⟩
  ·have a:(k+1)*s<=c*s:=Nat.mul_le_mul_right s (by omega);rw[Nat.add_mul] at a;simp only[B3,List.size_toArray,List.length_append,List.length_take,List.length_drop,Array.length_toList];omega
  ·have a:(k+1)*s<=n*s:=Nat.mul_le_mul_right s (by omega);have f:n*s<=c*s:=Nat.mul_le_mul_right s h2;rw[Nat.add_mul] at a;have q:List.drop o (B3 cur.toList (o+k*s) vs)=B3 (cur.toList.drop o) (k*s) vs:=by
    unfold B3;rw[List.append_assoc,List.append_assoc,List.drop_append,List.drop_take,List.length_take,List.drop_drop,Array.length_toList];rw[show o+k*s-o=k*s by omega,show o-min (o+k*s) cur.size=0 by omega,List.drop_zero,Nat.add_assoc]
   show(List.drop o (B3 cur.toList (o+k*s) vs)).take (n*s)=_;rw[q];have i:(cur.toList.drop o).length=c*s:=by rw[List.length_drop,Array.length_toList]; omega
   generalize cur.toList.drop o=C at i;simp only[B3];have e:(List.take (k*s) C).length=k*s:=by rw[List.length_take]; omega
   rw[List.append_assoc,List.take_append,List.take_append,e,l,List.append_assoc];congr 1
   ·rw[List.take_of_length_le (by rw[e]; omega),List.take_take]; congr 1; omega
   ·congr 1
    ·rw[List.take_of_length_le (by omega)]
    ·rw[List.drop_take]; congr 1; omega
end Go.Proofs.Sv
end
section
namespace Go.Proofs.Sv
open Go
theorem SlR.ins{lo hi:Nat}{w:World}{v:Value}{xs:List Int}(h:SlR lo hi w v xs):∀x∈xs,R6 x:=by
 intro x b;obtain⟨i,a,rfl⟩:=List.getElem_of_mem b;obtain⟨p,d,rfl⟩:=h.len;obtain⟨_,_,_,_,_,_,_,_,c⟩:=h.get a;exact c.2
section
open Go.RowKit
variable {P:Program} {n:Nat} {e:D1} {w:World} {Q:Exit->Act->World->Prop} {ops:Array Oper} {rest:List Oper}
 {d:Nat} {ty:TypeId} {pos:String} {after:Array Edge}
end
end Go.Proofs.Sv
end
section
namespace Go.Proofs.Sv
open Go Go.RowKit
def OwnI(w:World)(E:TypeId)(g:Option Nat)(v:Value)(xs:List Int):Prop:=Own w E 1 g v xs.length (xs.map (Value.int .i64))/\∀x∈xs,R6 x
theorem OwnI.up{w w':World}{E:TypeId}{g:Option Nat}{v:Value}{xs:List Int}(h:OwnI w E g v xs)(k:Ext w w'):OwnI w' E g v xs:=⟨h.1.up k,h.2⟩
theorem OwnI.we{g':Option Nat}{w w':World}{E:TypeId}{g:Option Nat}{v:Value}{xs:List Int}(h:OwnI w E g v xs)(k:WE g' w w')(a:∀i,g'=some i->g≠some i):OwnI w' E g v xs:=⟨h.1.we k a,h.2⟩
theorem OwnI.lt{w:World}{E:TypeId}{g:Option Nat}{v:Value}{xs:List Int}(h:OwnI w E g v xs):∀k,g=some k->k<w.heap.size:=h.1.lt
theorem OwnI.len{w:World}{E:TypeId}{g:Option Nat}{v:Value}{xs:List Int}(h:OwnI w E g v xs):∃p c,v=.slice p xs.length c:=h.1.len
theorem All.ints{lo hi:Nat}{w:World}:∀{cs:List Value} {xs:List Int},All lo hi w cs xs->cs=xs.map (Value.int .i64)
 | _,[],h=>h
 | _,x :: r,h=>by
   obtain⟨c,d,rfl,b,a⟩:=h;rw[b.1,All.ints a]; rfl
theorem SlR.src{lo hi:Nat}{w:World}{v:Value}{xs:List Int}(h:SlR lo hi w v xs):∃p cap b o,v=.slice p xs.length cap/\(xs.length=0∨p=some ⟨b,o,none⟩)/\At w b o (xs.map (Value.int .i64)):=by
 obtain⟨p,cap,rfl,_,_,a⟩:=h;rcases a with rfl | ⟨b,o,cs,rfl,_,_,hat,hall⟩
 ·exact⟨p,cap,0,0,rfl,.inl rfl,fun i u c=>by simp at c⟩
 ·rw[hall.ints] at hat;exact⟨_,cap,b,o,rfl,.inr rfl,hat⟩
theorem WE.then{g g':Option Nat}{w a b:World}(h:WE g w a)(k:WE g' a b)(d:∀i,g'=some i->w.heap.size<=i∨g=some i):WE g w b :=
 ⟨k.os.trans h.os,k.tape.trans h.tape,k.output.trans h.output,Nat.le_trans h.size k.size,fun i hi c=>(k.block i (Nat.lt_of_lt_of_le hi h.size) (fun e=>by
   grind)).trans (h.block i hi c)⟩
section
variable {P:Program} {n:Nat} {e:D1} {w:World} {ty:TypeId}
end
theorem At.tail{w:World}{b o:Nat}{c:Value}{cs:List Value}(h:At w b o (c :: cs)):At w b (o+1) cs:=by
 intro i u a;have:=h (i+1) u (by grind)
 grind
theorem SlR.tail{lo hi:Nat}{w:World}{p:Option Addr}{e a:Nat}{xs:List Int}(h:SlR lo hi w (.slice p e a) xs)(t:1<=e):SlR lo hi w (.slice (if a=1 then p else p.map (·.add (1*1))) (e-1) (a-1)) xs.tail:=by
 obtain⟨q,j,n,m,k,f⟩:=h;cases n;cases xs with
 | nil=>grind
 | cons x r =>
   refine⟨if a=1 then p else p.map (·.add (1*1)),a-1,rfl,by grind,by omega,?_⟩;by_cases s:a=1
   ·grind
   ·right;rcases f with f | ⟨b,o,cs,rfl,hlo,hhi,hat,hall⟩
    ·cases f
    ·obtain⟨c,d,rfl,i,l⟩:=hall;have g:=i.1;subst g;refine⟨b,o+1,d,?_,hlo,hhi,hat.tail,l⟩
     grind[Addr.add]
end Go.Proofs.Sv
end
section
namespace Go.Proofs.Xv
open Go Go.RowKit Go.Proofs.Sv
def I0K:IntKind->IntKind->Int->Option Int
 | .i64,.i64,n=>some n
 | .u8,.u8,n=>some n
 | .u8,.i64,n=>some n
 | .i64,.u8,n=>some (n % 256)
 | _,_,_=>none
def Yl(k k':IntKind)(n:Int):Prop×Int:=match I0K k k' n with
 | some m=>(True,m)
 | none=>(DT k' n,n)
def Ij(a b:Int):Int:=min a b
def Ik(a b:Int):Int:=max a b
def Ol(l h:Int)(n:Nat):Prop:=0<=l/\l<=h/\h<=(n:Int)
def R7(st:St)(p:Pa):Option Operand->Option (Option Int)
 | none=>some none
 | some x=>match rd st p x with
   | some (.d _ (.int _) n)=>some (some n)
   | _=>none
def Il{α:Type}(xs:List α):Option Int->Option Int->List α
 | none,none=>xs
 | some l,none=>xs.drop l.toNat
 | none,some h=>xs.take h.toNat
 | some l,some h=>(xs.take h.toNat).drop l.toNat
def CR:Nat->Nat->Nat->List (Nat×Nat)
 | 0,_,_=>[]
 | m+1,k,s=>(k*s,s) :: CR m (k+1) s
theorem m0R{s:Nat}:∀{m k i:Nat} {q:Nat×Nat},(CR m k s)[i]?=some q->q=((k+i)*s,s)
 | 0,k,i,q,h=>by grind[CR]
 | m+1,k,0,q,h=>by grind[CR,List.getElem?_cons_zero,oi]
 | m+1,k,i+1,q,h=>by
   simp only[CR,List.getElem?_cons_succ] at h;have:=m0R h
   grind
theorem k0W{P:Program}{n:Nat}{e:D1}{ty:TypeId}{w:World}{T E s y k v m:Nat}{z r:Value}{b:List (Nat×Operand)}{vs:List (Nat×Value)}{cs:List Value}(Y:P.underlying T=some (.array m E))[i:Info P T s y z][j:Info P E k v r](u:evp e b=some vs)(X:Ca (CR m 0 k) z.cells.toList vs=some cs) :
  F6 P n e (.build T b.toArray) ty w (.agg cs.toArray) w:=by
 intro a Q t o g W;obtain⟨H,h,h2,h3,F⟩:=i.get;obtain⟨q,d,l,_,_⟩:=j.get;have f:=Sm (CR m 0 k) vs z.cells.toList cs X;have c:=XW (fun i:Nat=>(CR m 0 k)[i]?) (fun i:Nat=>some (i*k,k)) vs _ _ (fun i p G=>by rw[m0R G,Nat.zero_add]) f;have V:b.toArray.map (fun(i,x)=>(i,a.eval x))=vs.toArray:=by rw[<- Agree.evp W u]; simp
 simp only[execOp,V];simp only[Instr.build,Sem.run_bind,Si w h F,Result.andThen,run_underlying Y,X1 w d,l];rw[show z.cells=z.cells.toList.toArray by simp];simp only[c];rfl
def Ym(ti:TI)(cs:List AV)(f:Nat):Option AV:=match ti.kd with
 | .agg pl _ ag=>match B8 pl f,B8 ag f with
   | some (off,s),some true=>bif Nat.ble (off+s) cs.length then some (.agg ((cs.drop off).take s)) else none
   | some (off,_),some false=>B8 cs off
   | _,_=>none
 | _=>none
def H8(Γ:p5)(st:St)(p:Pa):Op->Option (Prop×AV×List Nat)
 | .move x | .assign x=>match rd st p x with
   | some a=>some (True,a,[])
   | none=>none
 | .nilCheck x=>match rd st p x with
   | some v=>match X4 st.o v with
     | some (_,l)=>some (Cc st.o v,v,l)
     | none=>none
   | none=>none
 | .pick c a b=>match c with
   | .tmp s=>match rd st p (.tmp s),rd st ((s,true) :: p) a,rd st ((s,false) :: p) b with
     | some (.d _ .bool x),some (.d _ .bool y),some (.d _ .bool z)=>some (True,.d true .bool (Yf a b x y z),[])
     | _,_,_=>none
   | _=>none
 | .binOp op T x y _=>match rd st p x,rd st p y with
   | some u,some v=>match Oj (c7 Γ T) op u v with
     | some (q,r)=>some (q,r,[])
     | none=>none
   | _,_=>none
 | .unOp .not _ x=>match rd st p x with
   | some (.d _ .bool b)=>some (True,.d true .bool (!b),[])
   | _=>none
 | .unOp .neg _ x=>match rd st p x with
   | some (.d _ (.int .i64) n)=>some (DT .i64 (-n),.d true (.int .i64) (-n),[])
   | _=>none
 | .convert S T x=>match rd st p x,c7 Γ S,c7 Γ T with
   | some (.d _ (.int k) n),some ⟨_,_,_,.int _,_⟩,some ⟨_,_,_,.int k',_⟩=>match Yl k k' n with
     | (q,m)=>some (q,.d true (.int k') m,[])
   | some (.os id ver),some ⟨_,_,_,.sl E,_⟩,some ⟨_,_,_,.str,_⟩=>match c7 st.o id,c7 Γ E with
     | some (.arr _ _ (.int .u8) xs ver'),some ⟨_,_,_,.int .u8,_⟩=>bif Nat.beq ver ver' then some (0<xs.length,.d true .str (strOfNums xs),[id]) else none
     | _,_=>none
   | _,_,_=>none
 | .fieldAddr T x f=>match rd st p x,c7 Γ T with
   | some v,some ⟨_,_,_,.agg pl _ _,_⟩=>match B8 pl f,X4 st.o v with
     | some (off,_),some (_,l)=>match SH v off with
       | some r=>some (True,r,l)
       | none=>none
     | _,_=>none
   | _,_=>none
 | .load T x=>match rd st p x,c7 Γ T with
   | some v,some ti=>match X4 st.o v with
     | some (cs,l)=>match Kr ti cs with
       | some r=>some (Cc st.o v,r,l)
       | none=>none
     | none=>none
   | _,_=>none
 | .indexAddr T x i=>match rd st p x,rd st p i with
   | some v,some (.d _ (.int _) n)=>Kt Γ st.o T v n
   | _,_=>none
 | .index T x i=>match rd st p x,rd st p i,c7 Γ T with
   | some (.d _ .str s),some (.d _ (.int _) n),some ⟨_,_,_,.str,_⟩=>some (Ks n s.size,.d true (.int .u8) (F0 s n.toNat),[])
   | _,_,_=>none
 | .extract x i=>match rd st p x with
   | some (.tup l)=>match B8 l i with
     | some r=>some (True,r,[])
     | none=>none
   | _=>none
 | .field T x f=>match rd st p x,c7 Γ T with
   | some (.agg cs),some ti=>match Ym ti cs f with
     | some r=>some (True,r,[])
     | none=>none
   | _,_=>none
 | .makeFunc (.func f) first cap=>match first.toList,L8 st p cap.toList with
   | [],some l=>some (True,.fn f l,[])
   | _,_=>none
 | .build T parts=>match c7 Γ T with
   | some ⟨_,_,z,.agg pl _ _,_⟩=>match AP z.cells.toList with
     | some cs=>match AQ st p pl cs parts.toList with
       | some r=>some (True,.agg r,[])
       | none=>none
     | none=>none
   | some ⟨_,_,z,.arr m E,_⟩=>match c7 Γ E,AP z.cells.toList with
     | some te,some cs=>match AQ st p (CR m 0 te.size) cs parts.toList with
       | some r=>some (True,.agg r,[])
       | none=>none
     | _,_=>none
   | _=>none
 | .slice T x l h none=>match rd st p x,R7 st p l,R7 st p h,c7 Γ T with
   | some (.d fr (.sl t) xs),some lo,some hi,some ⟨_,_,_,.sl E,_⟩=>match c7 Γ E with
     | some te=>bif Nat.beq te.size (sz t) then some (Ol (lo.getD 0) (hi.getD xs.length) xs.length,.d fr (.sl t) (Il xs lo hi),[]) else none
     | none=>none
   | _,_,_,_=>none
 | .call ⟨.builtin .len,xs,Ts⟩=>match L8 st p xs.toList,Ts.toList with
   | some [.d _ (.sl _) l],[T]=>match c7 Γ T with
     | some ⟨_,_,_,.sl _,_⟩=>some (True,.d true (.int .i64) (l.length:Int),[])
     | _=>none
   | some [.os id ver],[T]=>match c7 Γ T,c7 st.o id with
     | some ⟨_,_,_,.sl _,_⟩,some (.arr _ _ _ l ver')=>bif Nat.beq ver ver' then some (True,.d true (.int .i64) (l.length:Int),[id]) else none
     | _,_=>none
   | some [.v (.slice none 0 0)],[T]=>match c7 Γ T with
     | some ⟨_,_,_,.sl _,_⟩=>some (True,.d true (.int .i64) (0:Int),[])
     | _=>none
   | some [.d _ .str s],[T]=>match c7 Γ T with
     | some ⟨_,_,_,.str,_⟩=>some (True,.d true (.int .i64) (s.size:Int),[])
     | _=>none
   | _,_=>none
 | .call ⟨.builtin .min,xs,_⟩=>match L8 st p xs.toList with
   | some [.d _ (.int .i64) a,.d _ (.int .i64) b]=>some (True,.d true (.int .i64) (Ij a b),[])
   | _=>none
 | .call ⟨.builtin .max,xs,_⟩=>match L8 st p xs.toList with
   | some [.d _ (.int .i64) a,.d _ (.int .i64) b]=>some (True,.d true (.int .i64) (Ik a b),[])
   | _=>none
 | _=>none
theorem AllR.takeD{a:Type}{R:List Value->a->Prop}{s:Nat}(b:∀c x,R c x->c.length=s):∀{cs:List Value} {xs:List a} (k:Nat),AllR R cs xs->AllR R (cs.take (k*s)) (xs.take k)/\AllR R (cs.drop (k*s)) (xs.drop k)
 | cs,xs,0,h=>by simpa using (⟨rfl,h⟩:AllR R [] ([]:List a)/\AllR R cs xs)
 | cs,[],k+1,h=>by rw[show cs=[] from h]; simpa using (⟨rfl,rfl⟩:AllR R [] ([]:List a)/\AllR R [] ([]:List a))
 | _,x :: r,k+1,⟨c,d,e,h1,h2⟩=>by
   subst e;have g:=b _ _ h1;have i:(k+1)*s=c.length+k*s:=by rw[g,Nat.add_mul]; omega
   rw[i,List.take_length_add_append,List.drop_length_add_append];have f:=AllR.takeD b k h2;exact⟨⟨c,_,rfl,h1,f.1⟩,f.2⟩
theorem AllR.cut{b:Type}{R:List Value->b->Prop}{s:Nat}(a:∀c x,R c x->c.length=s){cs:List Value}{xs:List b}{l h:Nat}(d:AllR R cs xs)(_:l<=h)(_:h<=xs.length):AllR R ((cs.take (h*s)).drop (l*s)) ((xs.take h).drop l) :=
 (AllR.takeD a l (AllR.takeD a h d).1).2
theorem c9{n:Int}(h : -9223372036854775808<=n/\n<=9223372036854775807):lo .i64<=n/\n<=hi .i64:=h
theorem v0q{a b:Int}(h:R6 a)(k:R6 b):R6 (Ij a b)/\R6 (Ik a b):=by grind[R6,Ij,Ik]
theorem D0X(a b:Int):(if b<a then b else a)=Ij a b:=by grind[Ij]
theorem E0b(a b:Int):(if b > a then b else a)=Ik a b:=by grind[Ik]
section
variable {X:Cx} {G:Gh} {a:Act} {st:St} {Γ:p5} {p:Pa}
theorem SI(c:EnvR X.n G st.e a)(d:PathP p a){o:Option Operand}{r:Option Int}(h:R7 st p o=some r):(o=none/\r=none)∨∃x n k,o=some x/\r=some n/\a.eval x=.int k n:=by
 unfold R7 at h;split at h
 ·grind
 ·rename_i x;split at h
  ·rename_i k n b;simp at h;exact .inr ⟨x,n,k,rfl,h.symm,(D6 (C8 c d b)).1⟩
  grind
theorem w0j{a:Type}(xs:List a)(lo hi:Option Int)(h:Ol (lo.getD 0) (hi.getD xs.length) xs.length):Il xs lo hi=(xs.take (hi.getD xs.length).toNat).drop (lo.getD 0).toNat:=by
 cases lo <;> cases hi <;> simp[Il]
theorem o0t(z:x7 X.P Γ)(hE:EnvR X.n G st.e a)(hp:PathP p a){T E ty:TypeId}{s0 y0:Nat}{z0:Value}{aA:Ty}{x:Operand}{l h:Option Operand}{lo hi:Option Int}{fr:Bool}{t:Ty}{xs:List (j7 t)}{s:TI}
  (hT:c7 Γ T=some ⟨s0,y0,z0,.sl E,aA⟩) (aC:c7 Γ E=some s) (hs:s.size=sz t) (hx:AVR G (.d fr (.sl t) xs) (a.eval x)) (hl:R7 st p l=some lo) (hh:R7 st p h=some hi) (hq:Ol (lo.getD 0) (hi.getD xs.length) xs.length) :
  L4 X G a (.slice T x l h none) ty (.d fr (.sl t) (Il xs lo hi)):=by
 obtain⟨pp,j,v,aG,aF,h4⟩:=id hx;simp only[List.cons.injEq,and_true] at v;have Y:=(z T _ hT).2.2.2.2.2;have hI:Info X.P E s.size s.bytes s.zero:=⟨(z E _ aC).1⟩;obtain⟨aH,i,W,h3,h5⟩:=hI.get;rw[w0j xs lo hi hq];obtain⟨q1,q2,q3⟩:=hq;have aD:(∃n k,l=some n/\a.eval n=.int k (lo.getD 0))∨(l=none/\lo.getD 0=0):=by
  rcases SI hE hp hl with ⟨q,u⟩ | ⟨y,n,k,q,u,e3⟩
  ·grind
  ·grind
 have aB:(∃n k,h=some n/\a.eval n=.int k (hi.getD xs.length))∨(h=none/\hi.getD xs.length=(xs.length:Int)):=by
  rcases SI hE hp hh with ⟨q,u⟩ | ⟨y,n,k,q,u,e3⟩
  ·grind
  ·grind
 generalize lo.getD 0=l0 at *
 generalize hi.getD xs.length=h0 at *
 have r1:∀(y:Nat) (f:BoundsCode) (k:IntKind),h0<=y->(Instr.sliceBound (.int k h0) y f).run X.P G.w=.ok h0.toNat G.w:=fun y f k Q=>run_sliceBound (P:=X.P) (w:=G.w) k h0 y f (by omega) Q;have r2:∀(y:Nat) (f:BoundsCode) (k:IntKind),l0<=y->(Instr.sliceBound (.int k l0) y f).run X.P G.w=.ok l0.toNat G.w:=fun y f k Q=>run_sliceBound (P:=X.P) (w:=G.w) k l0 y f q1 Q;have H:∀V F m g,(execOp a.eval ⟨V,.slice T x l h none,ty,F,m,g⟩).run X.P G.w=.ok (.value (.slice (if j=l0.toNat then pp else pp.map (·.add (l0.toNat*s.size))) (h0.toNat-l0.toNat) (j-l0.toNat))) G.w:=by
  intro V F m g;rcases aD with ⟨n1,k1,rfl,q⟩ | ⟨rfl,q⟩ <;> rcases aB with ⟨n2,k2,rfl,u⟩ | ⟨rfl,u⟩
  ·simp[execOp,v,Instr.sliceAt,Instr.slice,Instr.sliceBounds,run_underlying Y,Result.andThen,X1 G.w i,W,q,u,r1 j .sliceAcap k2 (by omega),r2 h0.toNat .sliceB k1 (by omega)]
  ·have:h0.toNat=xs.length:=by omega
   simp[execOp,v,Instr.sliceAt,Instr.slice,Instr.sliceBounds,run_underlying Y,Result.andThen,X1 G.w i,W,q,this,r2 xs.length .sliceB k1 (by omega)]
  ·simp[execOp,v,Instr.sliceAt,Instr.slice,Instr.sliceBounds,run_underlying Y,Result.andThen,X1 G.w i,W,q,u,r1 j .sliceAcap k2 (by omega)]
  ·have:h0.toNat=xs.length:=by omega
   simp[execOp,v,Instr.sliceAt,Instr.slice,Instr.sliceBounds,run_underlying Y,Result.andThen,X1 G.w i,W,q,this]
 refine⟨_,H,?_⟩;have r:((xs.take h0.toNat).drop l0.toNat).length=h0.toNat-l0.toNat:=by rw[List.length_drop,List.length_take]; omega
 rw[<- r];refine⟨_,_,rfl,by rw[r]; omega,by omega,?_⟩;by_cases hc:j=l0.toNat
 ·grind
 ·rcases h4 with h4 | ⟨b,o,ds,rfl,hb,hat,hall⟩
  ·grind
  ·right;have hR:=fun(c:List Value) (y:j7 t) (Q:RT (rg G fr) G.w t c y)=>RT.len Q;refine⟨b,o+l0.toNat*s.size,(ds.take (h0.toNat*sz t)).drop (l0.toNat*sz t),?_,hb,?_,?_⟩
   ·grind[Addr.add]
   ·grind[Ye,Yd]
   grind[AllR.cut]
theorem o0P(m:EnvR X.n G st.e a){T ty:TypeId}{x ix:Operand}{s:ByteArray}{n:Int}{f g:Bool}{k:IntKind}(o:X.P.underlying T=some .string)(l:AVR G (.d f .str s) (a.eval x))(j:AVR G (.d g (.int k) n) (a.eval ix))(h:Ks n s.size) :
  L4 X G a (.index T x ix) ty (.d true (.int .u8) (F0 s n.toNat)):=by
 haveI:Od X.P T:=⟨o⟩
 have b:ev (D2 a [x,ix]) x=some (a.eval x):=I3 (by simp);have c:ev (D2 a [x,ix]) ix=some (a.eval ix):=I3 (by simp);rw[(SE l).1] at b;rw[(D6 j).1] at c;obtain⟨i,rfl⟩:=Int.eq_ofNat_of_zero_le h.1;have hi:i<s.size:=by have:=h.2; omega
 exact B5 m [x,ix] (r0X b c hi) ⟨rfl,w0t _ _,w0u _ _⟩
theorem s0x(_:EnvR X.n G st.e a){S T ty:TypeId}{x:Operand}{f:Bool}{k s b:IntKind}{n m:Int}(w:X.P.underlying S=some (.int s))(v:X.P.underlying T=some (.int b))(t:AVR G (.d f (.int k) n) (a.eval x)){q:Prop}(h:Yl k b n=(q,m))(l:q) :
  L4 X G a (.convert S T x) ty (.d true (.int b) m):=by
 obtain⟨r,c⟩:=D6 t;have j:b.wrap n=m/\lo b<=m/\m<=hi b:=by
  unfold Yl at h;split at h
  case h_2 =>
   simp only[pj] at h;obtain⟨rfl,rfl⟩:=h;exact⟨SG _ l,l⟩
  rename_i z u;simp only[pj] at h;obtain⟨_,rfl⟩:=h;have h:=u;unfold I0K at h;split at h <;> simp only[oi,reduceCtorEq] at h
  ·subst h; exact⟨IntWalk.i64_in _ c,c⟩
  ·subst h; exact⟨IntWalk.u8_in _ c,c⟩
  ·grind[lo,hi,IntWalk.i64_in]
  ·grind[lo,hi,IntKind.wrap_u8]
 refine⟨.int b m,fun o y i g=>?_,rfl,j.2⟩;rw[<- j.1];simp[execOp,r,convert,run_underlying v,run_underlying w,Conv.intToInt,Result.andThen]
theorem o0p(S:Sat X G)(Q:EnvR X.n G st.e a){k T E ty T':TypeId}{x:Operand}{id ver:Nat}{fr:Bool}{xs:List Int}(hS:X.P.underlying k=some (.slice E))(l:X.P.underlying E=some (.int .u8))(hT:X.P.underlying T=some .string)(u:AVR G (.os id ver) (a.eval x))(y:c7 G.o id=some (.arr T' fr (.int .u8) xs ver))(hq:0<xs.length) :
  L4 X G a (.convert k T x) ty (.d true .str (strOfNums xs)):=by
 obtain⟨_,T2,W,t2,F,z,v,g2,Y⟩:=u;rw[y] at v;cases v;have u:=Y rfl;obtain⟨i,V,hA,_⟩:=S.obs id _ y;have f:∀{xs:List Int} {i:List Value},AllR (RT (rg G fr) G.w (.int .u8)) i xs->i=xs.map (Value.int .u8):=by
  intro xs
  induction xs with
  | nil=>intro i h; exact h
  | cons x r H =>
    rintro i ⟨c,d,e,m,j⟩;rw[e,m.1,H j]; rfl
 have f:=f hA;subst f
 haveI:AM X.P k E:=⟨hS⟩
 haveI:XX X.P E:=⟨l⟩
 haveI:Od X.P T:=⟨hT⟩
 rcases V with ⟨_,h0,_⟩ | ⟨b,o,cap,cur,hb,hv,m,j,h3,h4,h5⟩
 ·omega
 ·have q:Own G.w T' 1 (some b) (G.ρ id) xs.length (xs.map (Value.int .u8)):=.inr ⟨b,o,cap,cur,rfl,hv,m,j,h3,h4,h5⟩;obtain⟨o2,g,e2,s⟩:=q.at;have t:ev (D2 a [x]) x=some (.slice (some ⟨b,o2,none⟩) xs.length g):=by grind[I3]
  refine B5 Q [x] (r0V t rfl s) ⟨rfl,?_⟩;rw[strOfNums_size];have:cap<=9223372036854775807:=h3;omega
theorem i0L(d:x7 X.P Γ)(S:Sat X G)(q:EnvR X.n G st.e a){T ty:TypeId}{x:Operand}{f c F t w:Nat}{y:Value}{g:Ty}{pl:List (Nat×Nat)}{s:Bool}{i:List Bool}{v r:AV}{cs:List AV}{l:List Nat}
  (H:c7 Γ T=some ⟨F,t,y,.agg pl s i,g⟩) (j:B8 pl f=some (c,w)) (u:AVR G v (a.eval x)) (k:X4 G.o v=some (cs,l)) (z:SH v c=some r):L4 X G a (.fieldAddr T x f) ty r:=by
 obtain⟨b,o,Q,m⟩:=s0l S k z u;have E:=(d T _ H).2.2.2.2.2.2.2.1;rw[X3] at j
 haveI:w0N X.P T f c:=⟨by have:=g0U E j; simpa using this⟩
 have h:ev (D2 a [x]) x=some (.pointer (some ⟨b,o,none⟩)):=by grind[I3]
 exact B5 q [x] (j0l h) m
theorem m0K{P:Program}{w:World}{T:TypeId}{i:TypeInfo}{xs:Array Value}{a:Nat}(c:Bq P T=true)(hi:P.info? T=some i):(part T xs a).run P w=.ok (.agg (xs.extract a (a+i.size))) w:=by
 unfold Bq at c;split at c
 ·rename_i b;simp[part,Go.isAgg,run_underlying b,X1 w hi,Result.andThen]
 ·rename_i b;simp[part,Go.isAgg,run_underlying b,X1 w hi,Result.andThen]
 grind
theorem m0J{P:Program}{w:World}{T:TypeId}{xs:Array Value}{a:Nat}{v:Value}(b:X0 P T=true)(c:xs[a]?=some v):(part T xs a).run P w=.ok v w:=by
 unfold X0 at b;cases hu:P.underlying T with
 | none=>grind
 | some d=>cases d <;> simp[hu] at b <;> simp[part,Go.isAgg,run_underlying hu,c]
theorem o0V(Y:EnvR X.n G st.e a){T ty:TypeId}{ti:TI}{x:Operand}{f:Nat}{cs:List AV}{r:AV}(hT:Ih X.P T ti)(hx:AVR G (.agg cs) (a.eval x))(h:Ym ti cs f=some r):L4 X G a (.field T x f) ty r:=by
 obtain⟨_,_,_,_,hk⟩:=hT;obtain⟨w,eu,hA⟩:=hx;unfold Ym at h;split at h
 ·rename_i pl e ag Q;rw[Q] at hk;obtain⟨_,t,h3,_,_,W⟩:=hk;unfold Kl at t;unfold Of at h3;unfold Yb at W;split at t
  ·rename_i F E;simp only[E,oi] at t h3 W;have m:∀{d s:Nat} {b:Bool},B8 pl f=some (d,s)->B8 ag f=some b->∃c i,F[f]?=some c/\X.P.info? c.type=some i/\d=c.offset/\s=i.size/\Bq X.P c.type=b/\X0 X.P c.type=!b:=by
    intro d s b j l;rw[X3] at j l;rw[<- t,List.getElem?_map] at j;have g3:(F.toList.map fun f=>(Bq X.P f.type,X0 X.P f.type))[f]?=some (b,!b):=by rw[W,List.getElem?_map,l]; rfl
    rw[List.getElem?_map] at g3;cases q:F.toList[f]? with
    | none=>rw[q] at j; cases j
    | some c =>
      grind
   have o:ev (D2 a [x]) x=some (.agg w.toArray):=by grind[I3]
   split at h
   ·rename_i d s j l;obtain⟨c,i,q,hi,rfl,rfl,z,_⟩:=m j l;rw[ce] at h;split at h
    ·simp only[oi] at h; subst h;refine B5 Y [x] (v:=.agg (w.toArray.extract c.offset (c.offset+i.size))) ?_ ⟨(w.drop c.offset).take i.size,?_,?_⟩
     ·intro ac H y k g V;simp only[execOp,V.ev o];simp[Instr.field,run_underlying E,q,asAgg,m0K z hi]
     ·grind
     ·exact((hA.take c.offset).2.take i.size).1
    grind
   ·rename_i d s j l;obtain⟨c,i,q,hi,rfl,rfl,_,z⟩:=m j l;rw[X3] at h;obtain⟨u,aA,hr⟩:=hA.get h;refine B5 Y [x] (v:=u) ?_ hr;intro ac H y k g V;simp only[execOp,V.ev o];simp[Instr.field,run_underlying E,q,asAgg,m0J z (show w.toArray[c.offset]?=some u by grind)]
   grind
  grind
 grind
theorem n0I(c:x7 X.P Γ)(j:EnvR X.n G st.e a)(y:PathP p a){T ty:TypeId}{l k:Nat}{d:Value}{f:Ty}{pl:List (Nat×Nat)}{s:Bool}{h:List Bool}{b:Array (Nat×Operand)}{cs r:List AV}
  (z:c7 Γ T=some ⟨l,k,d,.agg pl s h,f⟩) (hz:AP d.cells.toList=some cs) (t:AQ st p pl cs b.toList=some r):L4 X G a (.build T b) ty (.agg r):=by
 obtain⟨o,v,m⟩:=Yk j y t (Kp (G:=G) hz);have g:=(c T _ z)
 haveI:Info X.P T l k d:=⟨g.1⟩
 haveI:r0v X.P T pl:=⟨g.2.2.2.2.2.1,g.2.2.2.2.2.2.1⟩
 have u:=Yj (a:=a) (xs:=b.toList.map (·.2)) (ps:=b.toList) (fun q x=>List.mem_map_of_mem x);have i:=r0Z (P:=X.P) (T:=T) (n:=X.n) (w:=G.w) (ty:=ty) u v;rw[Array.toArray_toList] at i;exact B5 j _ i ⟨o,rfl,m⟩
theorem j0w(c:x7 X.P Γ)(l:EnvR X.n G st.e a)(u:PathP p a){T E ty:TypeId}{o i m:Nat}{g:Value}{f:Ty}{d:TI}{b:Array (Nat×Operand)}{cs r:List AV}
  (k:c7 Γ T=some ⟨o,i,g,.arr m E,f⟩) (h:c7 Γ E=some d) (hz:AP g.cells.toList=some cs) (t:AQ st p (CR m 0 d.size) cs b.toList=some r):L4 X G a (.build T b) ty (.agg r):=by
 obtain⟨v,z,s⟩:=Yk l u t (Kp (G:=G) hz)
 haveI:Info X.P T o i g:=⟨(c T _ k).1⟩
 haveI:Info X.P E d.size d.bytes d.zero:=⟨(c E _ h).1⟩
 have x:=Yj (a:=a) (xs:=b.toList.map (·.2)) (ps:=b.toList) (fun q y=>List.mem_map_of_mem y);have j:=k0W (P:=X.P) (T:=T) (n:=X.n) (w:=G.w) (ty:=ty) (c T _ k).2.2.2.2.2 x z;rw[Array.toArray_toList] at j;exact B5 l _ j ⟨v,rfl,s⟩
theorem j0s(k:EnvR X.n G st.e a)(o:PathP p a){f:FuncId}{first b:Array Operand}{ty:TypeId}{l:List AV}(r:first.toList=[])(d:L8 st p b.toList=some l):L4 X G a (.makeFunc (.func f) first b) ty (.fn f l):=by
 have j:=Br k o d;refine⟨.func (.func f) #[] (b.toList.map a.eval).toArray,fun h q c g=>?_,_,rfl,j⟩;have i:first=#[]:=by cases first; simp_all
 have m:b.map a.eval=(b.toList.map a.eval).toArray:=by grind
 subst i;simp only[execOp,Instr.makeFunc,m];simp
theorem C0l{xs:Array Operand}{u:Value}(h:xs.toList.map a.eval=[u]):xs.map a.eval=#[u]:=by
 grind
theorem Yn{T ty:TypeId}{E:TypeId}{xs:Array Operand}{e:Array TypeId}{l:Option Addr}{m c:Nat}(o:X.P.underlying T=some (.slice E))(k:xs.toList.map a.eval=[.slice l m c])(h:e.toList=[T])(q:m<=9223372036854775807) :
  L4 X G a (.call ⟨.builtin .len,xs,e⟩) ty (.d true (.int .i64) (m:Int)):=by
 have j:=C0l k;have n:e=#[T]:=Array.ext' (by omega);subst n;refine⟨.int .i64 m,fun i f b g=>?_,rfl,c9 (by omega)⟩;simp only[execOp,resolve,j];simp[invoke,builtin,Builtin.len_,run_underlying o,goInt,Result.andThen]
theorem s0p{T ty:TypeId}{xs:Array Operand}{c:Array TypeId}{s:ByteArray}(l:X.P.underlying T=some .string)(j:xs.toList.map a.eval=[.string s])(f:c.toList=[T])(m:s.size<=9223372036854775807) :
  L4 X G a (.call ⟨.builtin .len,xs,c⟩) ty (.d true (.int .i64) (s.size:Int)):=by
 have i:=C0l j;have k:c=#[T]:=Array.ext' (by omega);subst k;refine⟨.int .i64 s.size,fun h e b g=>?_,rfl,c9 (by omega)⟩;simp only[execOp,resolve,i];simp[invoke,builtin,Builtin.len_,run_underlying l,goInt,Result.andThen]
theorem g0R{ty:TypeId}{xs:Array Operand}{j:Array TypeId}{u v:Int}(k:xs.toList.map a.eval=[.int .i64 u,.int .i64 v])(f:R6 u)(i:R6 v) :
  L4 X G a (.call ⟨.builtin .min,xs,j⟩) ty (.d true (.int .i64) (Ij u v))/\L4 X G a (.call ⟨.builtin .max,xs,j⟩) ty (.d true (.int .i64) (Ik u v)):=by
 have h:xs.map a.eval=#[.int .i64 u,.int .i64 v]:=by apply Array.ext'; simpa using k
 refine⟨⟨.int .i64 (Ij u v),fun c e b g=>?_,rfl,(v0q f i).1⟩,⟨.int .i64 (Ik u v),fun c e b g=>?_,rfl,(v0q f i).2⟩⟩
 ·rw[<- D0X];simp only[execOp,resolve,h];simp[invoke,builtin,Builtin.min_,Builtin.min2]
 ·rw[<- E0b];simp only[execOp,resolve,h];simp[invoke,builtin,Builtin.max_,Builtin.max2]
end
theorem s0E{X:Cx}{G:Gh}{a:Act}{st:St}{Γ:p5}{p:Pa}(w:x7 X.P Γ)(S:Sat X G)(ho:G.o=st.o)(d:EnvR X.n G st.e a)(H:PathP p a){op:Op}{ty:TypeId}{q:Prop}{r:AV}{l:List Nat}
  (h:H8 Γ st p op=some (q,r,l)) (hq:q):L4 X G a op ty r:=by
 unfold H8 at h;split at h
 ·rename_i x;split at h
  ·rename_i v Q;simp only[oi,pj] at h;obtain⟨_,rfl,_⟩:=h;exact B5 d [x] (BZ (by grind[AL,I3])) (C8 d H Q)
  grind
 ·rename_i x;split at h
  ·rename_i v Q;simp only[oi,pj] at h;obtain⟨_,rfl,_⟩:=h;exact B5 d [x] (BZ (by grind[AL,I3])) (C8 d H Q)
  grind
 ·rename_i x;split at h
  ·rename_i v Q;split at h
   ·rename_i cs l' hd;simp only[oi,pj] at h;obtain⟨rfl,rfl,_⟩:=h;rw[<- ho] at hd hq;have hx:=C8 d H Q;obtain⟨b,o,us,e,_⟩:=Yg S hd hq hx;have aB:ev (D2 a [x]) x=some (.pointer (some ⟨b,o,none⟩)):=by grind[I3]
    rw[e] at hx;exact B5 d [x] (k0U aB) hx
   grind
  grind
 ·rename_i c x y;split at h
  ·rename_i s;split at h
   ·rename_i f1 vx f2 vy f3 vz j F V;simp only[oi,pj] at h;obtain⟨_,rfl,_⟩:=h;have e1:=Bs (C8 d H j);rw[v0s F V];have hc:ev (D2 a [.tmp s,x,y]) (.tmp s)=some (.bool vx):=by grind[I3]
    cases vx with
    | true =>
      have aC:PathP ((s,true) :: p) a:=by
       intro z hz;rcases List.mem_cons.1 hz with rfl | hz
       ·exact e1
       ·exact H z hz
      have e2:=Bs (C8 d aC F);exact B5 d [.tmp s,x,y] (v:=.bool vy) (BZ (by grind[AL,I3])) rfl
    | false =>
      have aC:PathP ((s,false) :: p) a:=by
       intro z hz;rcases List.mem_cons.1 hz with rfl | hz
       ·exact e1
       ·exact H z hz
      have e2:=Bs (C8 d aC V);exact B5 d [.tmp s,x,y] (v:=.bool vz) (BZ (by grind[AL,I3])) rfl
   grind
  grind
 ·split at h
  ·rename_i u v j F;split at h
   ·rename_i q' r' hb;simp only[oi,pj] at h;obtain⟨rfl,rfl,_⟩:=h;exact s0A d (fun t ht=>w _ t ht) (C8 d H j) (C8 d H F) hb hq
   grind
  grind
 ·rename_i x;split at h
  ·rename_i f b j;simp only[oi,pj] at h;obtain⟨_,rfl,_⟩:=h;have e1:=Bs (C8 d H j);have aB:ev (D2 a [x]) x=some (.bool b):=by grind[I3]
   exact B5 d [x] (BZ (by grind[AL])) rfl
  grind
 ·rename_i x;split at h
  ·rename_i f n j;simp only[oi,pj] at h;obtain⟨rfl,rfl,_⟩:=h;have e1:=(D6 (C8 d H j)).1;have aB:ev (D2 a [x]) x=some (.int .i64 n):=by grind[I3]
   exact B5 d [x] (y0l aB hq) ⟨rfl,hq⟩
  grind
 ·split at h
  ·rename_i f k n _ _ _ k0 _ _ _ _ k' _ j F V;split at h;rename_i q' m hm;simp only[oi,pj] at h;obtain⟨rfl,rfl,_⟩:=h;exact s0x d (w _ _ F).2.2.2.2.2 (w _ _ V).2.2.2.2.2 (C8 d H j) hm hq
  ·rename_i id aK _ _ _ E _ _ _ _ _ j F V;split at h
   ·rename_i E' fr xs aF _ _ _ _ h4 h5;rw[ce] at h;split at h
    ·rename_i Q;have Q:=nb Q;subst Q;simp only[oi,pj] at h;obtain⟨rfl,rfl,_⟩:=h;exact o0p S d (w _ _ F).2.2.2.2.2 (w _ _ h5).2.2.2.2.2 (w _ _ V).2.2.2.2.2 (C8 d H j) (by rw[ho]; exact h4) hq
    grind
   grind
  grind
 ·split at h
  ·rename_i v _ _ _ pl _ j F;split at h
   ·rename_i aO s1 cs l' hf hd;split at h
    ·rename_i r' hm;simp only[oi,pj] at h;obtain⟨_,rfl,_⟩:=h;rw[<- ho] at hd;exact i0L w S d F hf (C8 d H j) hd hm
    grind
   grind
  grind
 ·split at h
  ·rename_i v ti j F;split at h
   ·rename_i cs l' hd;split at h
    ·rename_i r' hm;simp only[oi,pj] at h;obtain⟨rfl,rfl,_⟩:=h;rw[<- ho] at hd hq;obtain⟨b,o,us,e,aI,hA⟩:=Yg S hd hq (C8 d H j);exact q0K d (w _ _ F) e aI hA hm
    grind
   grind
  grind
 ·split at h
  ·rename_i v f k n j F;rw[<- ho] at h;exact v0I w S d (C8 d H j) (C8 d H F) h hq
  grind
 ·split at h
  ·rename_i f s g k n _ _ _ _ j F V;simp only[oi,pj] at h;obtain⟨rfl,rfl,_⟩:=h;exact o0P d (w _ _ V).2.2.2.2.2 (C8 d H j) (C8 d H F) hq
  grind
 ·rename_i x i;split at h
  ·rename_i l' j;split at h
   ·rename_i r' F;simp only[oi,pj] at h;obtain⟨_,rfl,_⟩:=h;obtain⟨us,e,hA⟩:=C8 d H j;rw[X3] at F;obtain⟨u,W,hr⟩:=hA.get F;have aB:ev (D2 a [x]) x=some (.tuple us.toArray):=by grind[I3]
    exact B5 d [x] (BZ (by grind[AL])) hr
   grind
  grind
 ·split at h
  ·rename_i cs ti j F;split at h
   ·rename_i r' V;simp only[oi,pj] at h;obtain⟨_,rfl,_⟩:=h;exact o0V d (w _ _ F) (C8 d H j) V
   grind
  grind
 ·grind[oi,pj,j0s]
 ·grind[oi,pj,n0I,j0w]
 ·split at h
  ·rename_i j F V h4;split at h
   ·rename_i te h5;rw[ce] at h
    grind[oi,pj,o0t,nb,C8]
   grind
  grind
 ·rename_i xs Ts;split at h
  ·rename_i f t l' T j F;split at h
   ·rename_i V;simp only[oi,pj] at h;obtain⟨_,rfl,_⟩:=h;obtain⟨u,Y,e,W,hr⟩:=Br d H j;have:Y=[]:=hr;subst this;obtain⟨p0,aH,Q,aL,aA,_⟩:=W;simp only[List.cons.injEq,and_true] at Q;rw[Q] at e;exact Yn (w _ _ V).2.2.2.2.2 e F (by omega)
   grind
  ·rename_i id aK T j F;split at h
   ·rename_i _ _ _ _ T' fr t l' aF V h4;rw[ce] at h;split at h
    ·rename_i Q;have Q:=nb Q;simp only[oi,pj] at h;obtain⟨_,rfl,_⟩:=h;obtain⟨u,Y,e,W,hr⟩:=Br d H j;have:Y=[]:=hr;subst this;obtain⟨_,T1,aN,t1,aP,aM,g1,g2,g3⟩:=W;rw[<- ho] at h4;rw[h4] at g1;cases g1;have W:=g3 Q;obtain⟨cs,hO,_,_⟩:=S.obs id _ h4;have aA:l'.length<=9223372036854775807:=by
      rcases hO with ⟨_,hn,_⟩ | ⟨b,o,aH,cur,_,_,_,aL,aA,_⟩
      ·omega
      ·grind[maxLen]
     obtain⟨p0,c0,aJ⟩:=hO.len;rw[W,aJ] at e;exact Yn (w _ _ V).2.2.2.2.2 e F aA
    grind
   grind
  ·rename_i T j F;split at h
   ·rename_i V;simp only[oi,pj] at h;obtain⟨_,rfl,_⟩:=h;obtain⟨u,Y,e,W,hr⟩:=Br d H j;have:Y=[]:=hr;subst this;have W:u=_:=W;rw[W] at e;exact Yn (w _ _ V).2.2.2.2.2 e F (Nat.zero_le _)
   grind
  ·rename_i f s T j F;split at h
   ·rename_i V;simp only[oi,pj] at h;obtain⟨_,rfl,_⟩:=h;obtain⟨u,Y,e,W,hr⟩:=Br d H j;have:Y=[]:=hr;subst this;obtain⟨Q,hm⟩:=SE W;rw[Q] at e;exact s0p (w _ _ V).2.2.2.2.2 e F hm
   grind
  grind
 ·rename_i xs Ts;split at h
  ·rename_i f u g v j;simp only[oi,pj] at h;obtain⟨_,rfl,_⟩:=h;obtain⟨x1,aG,e1,W,x2,aD,e2,Q,e3⟩:=Br d H j;have e3:aD=[]:=e3;subst e3; subst e2;obtain⟨g1,g2⟩:=D6 W;obtain⟨g3,g4⟩:=D6 Q;rw[g1,g3] at e1;exact(g0R e1 g2 g4).1
  grind
 ·rename_i xs Ts;split at h
  ·rename_i f u g v j;simp only[oi,pj] at h;obtain⟨_,rfl,_⟩:=h;obtain⟨x1,aG,e1,W,x2,aD,e2,Q,e3⟩:=Br d H j;have e3:aD=[]:=e3;subst e3; subst e2;obtain⟨g1,g2⟩:=D6 W;obtain⟨g3,g4⟩:=D6 Q;rw[g1,g3] at e1;exact(g0R e1 g2 g4).2
  grind
 grind
def CS(o:List (Nat×Ob)):AV->Option ((t:Ty)×List (j7 t)×List Nat×Bool)
 | .d fr (.sl t) xs=>some ⟨t,xs,[],fr||G7 t⟩
 | .os id ver=>match c7 o id with
   | some (.arr _ fr t xs ver')=>bif Nat.beq ver ver' then some ⟨t,xs,[id],fr||G7 t⟩ else none
   | _=>none
 | _=>none
def SJ(n m y:Nat):Prop:=n+m<=9223372036854775807/\(n+m)*y<=140737488355328
def SK(n n':Int)(y:Nat):Prop:=0<=n/\n'=n/\n.toNat*y<=281474976710656/\n<=9223372036854775807
def DU(st:St)(p:Pa)(t:Ty):Nat->List (Nat×Operand)->Option (List (j7 t)×Bool)
 | _,[]=>some ([],true)
 | k,(i,x) :: r=>bif Nat.beq i k then(match rd st p x with
   | some v=>match Cb v with
     | some cs=>match G9 st.o 24 t cs with
       | some (y,[],f)=>match DU st p t (k+1) r with
         | some (ys,g)=>some (y :: ys,f&&g)
         | none=>none
       | _=>none
     | none=>none
   | none=>none) else none
def Al(o:List (Nat×Ob))(d:Nat):Bool:=match c7 o d with
 | none=>true
 | some _=>false
def SL:TI->Option (TypeId×Ty)
 | ⟨1,_,.slice none 0 0,.sl Te,.sl t⟩=>some (Te,t)
 | _=>none
def AR(Γ:p5)(st:St)(p:Pa)(d:Nat):Op->Option (Prop×AV×(Nat×Ob)×List Nat)
 | .alloc T=>match c7 Γ T with
   | some ti=>match AP ti.zero.cells.toList with
     | some cs=>bif Al st.o d then some (True,.ptr d 0,(d,.box T cs),[d]) else none
     | none=>none
   | none=>none
 | .box T x=>match rd st p x with
   | some v=>match Cb v with
     | some cs=>bif Al st.o d then some (True,.ptr d 0,(d,.box T cs),[d]) else none
     | none=>none
   | none=>none
 | .makeSlice T l c=>match rd st p l,rd st p c,c7 Γ T with
   | some (.d _ (.int .i64) n),some (.d _ (.int .i64) n'),some ⟨_,_,_,.sl E,_⟩=>match c7 Γ E with
     | some te=>match SL te with
       | some (Te,t)=>bif Al st.o d then some (SK n n' te.bytes,.og d,(d,.grd E Te true t (List.replicate n.toNat []) none),[d]) else none
       | none=>match AP te.zero.cells.toList with
         | some cs=>match G9 st.o 24 te.ty cs with
           | some (z,[],f)=>bif Al st.o d&&Nat.beq te.size (sz te.ty) then some (SK n n' te.bytes,.os d 0,(d,.arr E f te.ty (List.replicate n.toNat z) 0),[d]) else none
           | _=>none
         | none=>none
     | none=>none
   | _,_,_=>none
 | .buildSlice T n parts=>match c7 Γ T with
   | some ⟨_,_,_,.sl E,_⟩=>match c7 Γ E with
     | some te=>match DU st p te.ty 0 parts.toList with
       | some (xs,f)=>bif Al st.o d&&Nat.beq te.size (sz te.ty)&&Nat.beq parts.toList.length n&&Nat.ble (n*te.size) 16777216 then some (True,.os d 0,(d,.arr E f te.ty xs 0),[d]) else none
       | none=>none
     | none=>none
   | _=>none
 | .call ⟨.builtin .append,xs,Ts⟩=>match L8 st p xs.toList,Ts.toList with
   | some [.os id ver,v],[T,T2]=>match c7 Γ T,c7 st.o id,CS st.o v with
     | some ⟨_,_,_,.sl E,_⟩,some (.arr E' fr t l ver'),some ⟨t',m,ids,f⟩=>match c7 Γ E,X2 (.sl t') (.sl t) m with
       | some te,some m'=>bif Nat.beq ver ver'&&Nat.beq E E'&&Nat.beq te.size (sz t)&&Nat.beq T T2 then some (SJ l.length m'.length te.bytes,.os id (ver+1),(id,.arr E (fr&&f) t (l++m') (ver+1)),id :: ids) else none
       | _,_=>none
     | _,_,_=>none
   | some [.v (.slice none 0 0),v],[T,T2]=>match c7 Γ T,CS st.o v with
     | some ⟨_,_,_,.sl E,_⟩,some ⟨t,m,ids,f⟩=>match c7 Γ E with
       | some te=>bif Al st.o d&&Nat.beq te.size (sz t)&&Nat.beq T T2 then some (SJ 0 m.length te.bytes,.os d 0,(d,.arr E f t m 0),d :: ids) else none
       | none=>none
     | _,_=>none
   | _,_=>none
 | _=>none
def Cd(Γ:p5)(st:St)(p:Pa):Op->Option (Prop×(Nat×Ob)×List Nat)
 | .store T x y=>match rd st p x,rd st p y,c7 Γ T with
   | some (.ptr id off),some v,some ti=>match c7 st.o id,Cb v with
     | some (.box T' cs),some vs=>bif Nat.beq vs.length ti.size&&Nat.ble (off+vs.length) cs.length then some (True,(id,.box T' (Gi cs off vs)),[id]) else none
     | _,_=>none
   | some (.pel id ver k s off),some v,some ti=>match c7 st.o id,Cb v with
     | some (.arr E fr t l ver'),some vs=>match G9 st.o 24 t (Gi (p8 fr t (l.getD k (b7 t))) off vs) with
       | some (y,[],f)=>bif Nat.beq ver ver'&&Nat.beq s (sz t)&&Nat.beq vs.length ti.size&&Nat.ble (off+vs.length) (sz t) then some (k<l.length,(id,.arr E (fr&&f) t (l.set k y) ver'),[id]) else none
       | _=>none
     | _,_=>none
   | _,_,_=>none
 | _=>none
def Mk(X:Cx)(G:Gh)(a:Act)(op:Op)(ty:TypeId)(av:AV)(w:Nat×Ob):Prop :=
 ∃v G',(∀dst pos after g,(execOp a.eval ⟨dst,op,ty,pos,after,g⟩).run X.P G.w=.ok (.value v) G'.w)/\Sat X G'/\GLe G G'/\G'.o=w :: G.o/\AVR G' av v
theorem DV{o:List (Nat×Ob)}{d:Nat}(h:Al o d=true):c7 o d=none:=by
 grind[Al]
section
variable {X:Cx} {G:Gh} {a:Act} {st:St} {Γ:p5} {p:Pa}
theorem SM{d:Nat}{ob:Ob}{r:Value}(h:c7 G.o d=none):w0M G d ob r:=⟨(fun _ _ a=>by grind),(fun _ _ _ _ _ a=>by grind),by rw[h]; rfl⟩
theorem Yo(S:Sat X G){d:Nat}{T:TypeId}{cs:List AV}{us:Array Value}(c:c7 G.o d=none)(i:AVRs G cs us.toList) :
  ∃G',G'.w=G.w.alloc (.cells us T)/\Sat X G'/\GLe G G'/\G'.o=(d,.box T cs) :: G.o/\AVR G' (.ptr d 0) (.pointer (some ⟨G.w.heap.size,0,none⟩)):=by
 have f:=XR G.w (.cells us T);have j:=XS G.w us T;have h:=S.put (id:=d) (ob:=.box T cs) (r:=.pointer (some ⟨G.w.heap.size,0,none⟩)) (g:=some G.w.heap.size) (w':=G.w.alloc (.cells us T)) (go:=none) (SM c) (fun _ e=>by cases e) (WE.of_ext f.ext) (fun b e=>by cases e; exact .inr (Nat.le_refl _))
  (fun a=>⟨G.w.heap.size,us.toList,by simp[Gh.put],by simp[Gh.put],j,i.mono a⟩)
 exact⟨_,rfl,h.1,h.2,rfl,⟨T,cs,by rw[show(Gh.put G d (.box T cs) _ _ _).o=(d,.box T cs) :: G.o from rfl,lK]; simp⟩,_,by simp[Gh.put],rfl⟩
theorem C0d(S:Sat X G){d:Nat}{E:TypeId}{fr:Bool}{t:Ty}{xs:List (j7 t)}{us:Array Value}(j:c7 G.o d=none)(i:AllR (RT (rg G fr) G.w t) us.toList xs)(n:xs.length<=9223372036854775807) :
  ∃G',G'.w=G.w.alloc (.cells us E)/\Sat X G'/\GLe G G'/\G'.o=(d,.arr E fr t xs 0) :: G.o/\AVR G' (.os d 0) (.slice (some ⟨G.w.heap.size,0,none⟩) xs.length xs.length):=by
 have k:=XR G.w (.cells us E);have m:=XS G.w us E;have a:=i.len (fun c x h=>RT.len h);have h:=S.put (id:=d) (ob:=.arr E fr t xs 0) (r:=.slice (some ⟨G.w.heap.size,0,none⟩) xs.length xs.length) (g:=some G.w.heap.size) (w':=G.w.alloc (.cells us E)) (go:=none) (SM j) (fun _ e=>by cases e) (WE.of_ext k.ext) (fun b e=>by grind)
  (fun f=>⟨us.toList,by
    simp only[Gh.put,if_true];exact .inr ⟨G.w.heap.size,0,xs.length,us,rfl,rfl,by simpa [Blk] using m,Nat.le_refl _,by simp only[maxLen]; omega,by simpa using a,by rw[List.drop_zero,<- a,List.take_length]⟩,i.mapR (fun c x l=>RT.same (w:=G.w) f.hR l),fun b e=>by simp only[Gh.put,if_true] at e ⊢; cases e; exact Nat.le_trans S.le S.size⟩)
 exact⟨_,rfl,h.1,h.2,rfl,rfl,E,fr,t,xs,0,by rw[show(Gh.put G d (.arr E fr t xs 0) _ _ _).o=(d,.arr E fr t xs 0) :: G.o from rfl,lK]; simp,Nat.le_refl _,fun _=>by simp[Gh.put]⟩
theorem I0o(S:Sat X G){d n:Nat}{E Te:TypeId}{t:Ty}(j:c7 G.o d=none)(i:n<=9223372036854775807) :
  ∃G',G'.w=G.w.alloc (.cells (P3 n [.slice none 0 0]).toArray E)/\Sat X G'/\GLe G G'/\G'.o=(d,.grd E Te true t (List.replicate n []) none) :: G.o/\AVR G' (.og d) (.slice (some ⟨G.w.heap.size,0,none⟩) n n):=by
 have c:=XR G.w (.cells (P3 n [.slice none 0 0]).toArray E);have f:=XS G.w (P3 n [.slice none 0 0]).toArray E;have s:P3 n [Value.slice none 0 0]=List.replicate n (.slice none 0 0):=by
  clear c f i
  induction n with
  | zero=>rfl
  | succ n q=>grind[P3]
 have h:=S.put (id:=d) (ob:=.grd E Te true t (List.replicate n []) none) (r:=.slice (some ⟨G.w.heap.size,0,none⟩) n n) (g:=some G.w.heap.size) (w':=G.w.alloc (.cells (P3 n [.slice none 0 0]).toArray E)) (go:=none) (SM j) (fun _ e=>by cases e) (WE.of_ext c.ext) (fun b e=>by grind)
  (fun l=>⟨List.replicate n (.slice none 0 0),fun _=>none,by
    simp only[Gh.put,if_true,List.length_replicate];exact .inr ⟨G.w.heap.size,0,n,_,rfl,rfl,by simpa [Blk] using f,Nat.le_refl _,by grind[maxLen],by grind,by grind⟩,⟨by simp,fun b=>⟨fun h=>(h.1 rfl).elim,fun⟨_,_,_,h⟩=>by cases h⟩,(fun _ _ _ _ _ _ _ h=>by cases h),fun k a _=>by
     rw[List.length_replicate] at a;refine⟨[],?_,?_,(fun _ h=>by cases h)⟩
     ·simp only[gq,List.getElem?_replicate,a,if_true,Option.getD_some];exact Own.nil
     ·simp only[gq,List.getElem?_replicate,a,if_true,Option.getD_some];rfl,fun v m=>by rw[(List.mem_replicate.1 m).2]; rfl⟩,fun b e=>by simp only[Gh.put,if_true] at e ⊢; cases e; exact Nat.le_trans S.le S.size⟩)
 exact⟨_,rfl,h.1,h.2,rfl,rfl,⟨E,Te,true,t,List.replicate n [],none,by rw[show(Gh.put G d (.grd E Te true t (List.replicate n []) none) _ _ _).o=(d,.grd E Te true t (List.replicate n []) none) :: G.o from rfl,lK]; simp⟩,by simp[Gh.put]⟩
theorem z0w{a:TI}{Te:TypeId}{t:Ty}(h:SL a=some (Te,t)):a.size=1/\a.zero=.slice none 0 0/\a.ty=.sl t:=by
 unfold SL at h
 grind
theorem j0r(j:x7 X.P Γ)(S:Sat X G)(k:EnvR X.n G st.e a)(y:PathP p a){d T E ty s0 y0 Te:Nat}{z0:Value}{s t:Ty}{l c:Operand}{n x:Int}{h:TI}{f g:Bool}
  (hl:rd st p l=some (.d f (.int .i64) n)) (W:rd st p c=some (.d g (.int .i64) x)) (hT:c7 Γ T=some ⟨s0,y0,z0,.sl E,s⟩) (u:c7 Γ E=some h) (Y:SL h=some (Te,t))
  (H:c7 G.o d=none) (hq:SK n x h.bytes):Mk X G a (.makeSlice T l c) ty (.og d) (d,.grd E Te true t (List.replicate n.toNat []) none):=by
 obtain⟨q1,rfl,z,q3⟩:=hq;obtain⟨m,rfl⟩:=Int.eq_ofNat_of_zero_le q1;simp only[Int.toNat_natCast] at z ⊢;have b:=j E _ u
 haveI:AM X.P T E:=⟨(j T _ hT).2.2.2.2.2⟩
 haveI:Info X.P E h.size h.bytes h.zero:=⟨b.1⟩
 obtain⟨_,V,_⟩:=z0w Y;obtain⟨G',h1,F,Q,h4,h5⟩:=I0o S (E:=E) (Te:=Te) (t:=t) (d:=d) (n:=m) H (by omega);have e1:=(D6 (C8 k y hl)).1;have e2:=(D6 (C8 k y W)).1;have v:ev (D2 a [l,c]) l=some (.int .i64 (m:Int)):=by grind[I3]
 have r:ev (D2 a [l,c]) c=some (.int .i64 (m:Int)):=by grind[I3]
 refine⟨_,G',fun w q i g=>?_,F,Q,h4,h5⟩;rw[h1];have hz:h.zero.cells.toList=[.slice none 0 0]:=by rw[V]; rfl
 exact m0H (P:=X.P) (n:=X.n) v r hz (by rw[<- hz]; exact b.2.1) b.2.2.1 z (by omega) a w q i g (Yc k _)
theorem p0n(e:x7 X.P Γ)(S:Sat X G){d T ty:Nat}{c:TI}{cs:List AV}(v:c7 Γ T=some c)(hz:AP c.zero.cells.toList=some cs)(i:c7 G.o d=none):Mk X G a (.alloc T) ty (.ptr d 0) (d,.box T cs):=by
 obtain⟨s,q,h,j,r,n⟩:=Yo S (T:=T) i (Kp (G:=G) hz);have m:Info X.P T c.size c.bytes c.zero:=⟨(e T _ v).1⟩;obtain⟨t,b,x,y,l⟩:=m.get;refine⟨_,s,fun u k f g=>?_,h,j,r,n⟩;have hz:=Si G.w b l;simp only[execOp,Instr.alloc,Sem.run_bind,hz,Result.andThen,q];rfl
theorem w0v(S:Sat X G)(q:EnvR X.n G st.e a)(t:PathP p a){d T ty:Nat}{x:Operand}{v:AV}{cs:List AV}(m:rd st p x=some v)(i:Cb v=some cs)(h:c7 G.o d=none):Mk X G a (.box T x) ty (.ptr d 0) (d,.box T cs):=by
 obtain⟨l,_⟩:=Kq i (C8 q t m);obtain⟨s,w,f,r,k,u⟩:=Yo S (T:=T) (us:=(a.eval x).cells) h l;refine⟨_,s,fun j c b g=>?_,f,r,k,u⟩;simp only[execOp,w];rfl
theorem n0P{a:Type}{R:List Value->a->Prop}{zs:List Value}{z:a}(h:R zs z):∀k,AllR R (P3 k zs) (List.replicate k z)
 | 0=>rfl
 | k+1=>⟨zs,P3 k zs,rfl,h,n0P h k⟩
theorem i0p(j:x7 X.P Γ)(S:Sat X G)(k:EnvR X.n G st.e a)(V:PathP p a){d T E ty s0 y0:Nat}{z0:Value}{s:Ty}{l c:Operand}{n H:Int}{b:TI}{cs:List AV}{z:j7 b.ty}{f g u:Bool}
  (hl:rd st p l=some (.d f (.int .i64) n)) (hc:rd st p c=some (.d g (.int .i64) H)) (hT:c7 Γ T=some ⟨s0,y0,z0,.sl E,s⟩) (t:c7 Γ E=some b) (hz:AP b.zero.cells.toList=some cs) (hn:G9 G.o 24 b.ty cs=some (z,[],u))
  (Y:c7 G.o d=none) (_:b.size=sz b.ty) (hq:SK n H b.bytes):Mk X G a (.makeSlice T l c) ty (.os d 0) (d,.arr E u b.ty (List.replicate n.toNat z) 0):=by
 obtain⟨q1,rfl,Q,q3⟩:=hq;obtain⟨m,rfl⟩:=Int.eq_ofNat_of_zero_le q1;simp only[Int.toNat_natCast] at Q ⊢;have h:=j E _ t
 haveI:AM X.P T E:=⟨(j T _ hT).2.2.2.2.2⟩
 haveI:Info X.P E b.size b.bytes b.zero:=⟨h.1⟩
 have y:=XZ S hn (Kp (G:=G) hz);have hA:=n0P (R:=RT (rg G u) G.w b.ty) y m;obtain⟨G',h1,W,h3,h4,F⟩:=C0d S (E:=E) (d:=d) (us:=(P3 m b.zero.cells.toList).toArray) Y (by omega) (by grind);rw[List.length_replicate] at F;have e1:=(D6 (C8 k V hl)).1;have e2:=(D6 (C8 k V hc)).1;have v:ev (D2 a [l,c]) l=some (.int .i64 (m:Int)):=by grind[I3]
 have r:ev (D2 a [l,c]) c=some (.int .i64 (m:Int)):=by grind[I3]
 refine⟨_,G',fun x q i g=>?_,W,h3,h4,F⟩;rw[h1];exact m0H (P:=X.P) (n:=X.n) v r rfl h.2.1 h.2.2.1 Q (by omega) a x q i g (Yc k _)
theorem u0u(pre post c:List Value)(k:Nat)(h:pre.length=k):B3 (pre++post) k c=pre++(c++post.drop c.length):=by
 unfold B3;subst h
 simp_all
theorem k0l(S:Sat X G)(z:G.o=st.o)(F:EnvR X.n G st.e a)(u:PathP p a){t:Ty}{place:List (Nat×Nat)}:∀{ps:List (Nat×Operand)} {k:Nat} {ys:List (j7 t)} {fl:Bool} {pre post:List Value},DU st p t k ps=some (ys,fl)->pre.length=k*sz t->post.length=ps.length*sz t ->
  (∀i,i<k+ps.length->place[i]?=some (i*sz t,sz t))->∃ws,Ca place (pre++post) (ps.map fun q=>(q.1,a.eval q.2))=some (pre++ws)/\AllR (RT (rg G fl) G.w t) ws ys/\ys.length=ps.length
 | [],k,ys,fl,pre,post,h,h1,h2,hpl=>by
   simp only[DU,oi,pj] at h; obtain⟨rfl,rfl⟩:=h;have:post=[]:=List.eq_nil_of_length_eq_zero (by grind);subst this;exact⟨[],by simp[Ca],rfl,rfl⟩
 | (i,x) :: r,k,ys,fl,pre,post,h,h1,h2,hpl=>by
   unfold DU at h;rw[ce] at h;split at h
   ·rename_i hi;have hi:=nb hi;subst hi;split at h
    ·rename_i v P;split at h
     ·rename_i Y m;split at h
      ·rename_i y f E;split at h
       ·rename_i T g l;simp only[oi,pj] at h; obtain⟨rfl,rfl⟩:=h;obtain⟨Q,_⟩:=Kq m (C8 F u P);rw[<- z] at E;have s:=XZ S E Q;have d:=RT.len s;rw[List.length_cons,Nat.add_mul] at h2;obtain⟨ws,g1,V,W⟩:=k0l S z F u (k:=i+1) (pre:=pre++(a.eval x).cells.toList) (post:=post.drop (sz t)) l (by grind) (by grind) (fun j hj=>hpl j (by grind));refine⟨(a.eval x).cells.toList++ws,?_,⟨_,ws,rfl,RT.up s (fun k b=>⟨b.1,fun e=>b.2 (by grind)⟩),V.mapR (fun c x h=>RT.up h (fun k b=>⟨b.1,fun e=>b.2 (by grind)⟩))⟩,by grind⟩;simp only[List.map_cons];unfold Ca;rw[hpl i (by grind)];have H:(CP (a.eval x).cells.toList (sz t)&&Nat.ble (i*sz t+sz t) (pre++post).length)=true:=by
         rw[ba];exact⟨Yi d,Nat.ble_eq_true_of_le (by grind)⟩
        simp only[H,cond_true]
        grind[u0u,List.append_assoc]
       grind
      grind
     grind
    grind
   grind
theorem h0d(r:x7 X.P Γ)(S:Sat X G)(ho:G.o=st.o)(hE:EnvR X.n G st.e a)(hp:PathP p a){d T E ty s0 y0 n:Nat}{z0:Value}{Y:Ty}{f:Array (Nat×Operand)}{b:TI}{xs:List (j7 b.ty)}{fr:Bool}
  (hT:c7 Γ T=some ⟨s0,y0,z0,.sl E,Y⟩) (aB:c7 Γ E=some b) (Q:DU st p b.ty 0 f.toList=some (xs,fr)) (hd:c7 G.o d=none) (hs:b.size=sz b.ty) (hn:f.toList.length=n) (aH:n*b.size<=16777216) :
  Mk X G a (.buildSlice T n f) ty (.os d 0) (d,.arr E fr b.ty xs 0):=by
 have m:=r E _ aB;have hU:=(r T _ hT).2.2.2.2.2;have hI:Info X.P E b.size b.bytes b.zero:=⟨m.1⟩;obtain⟨aC,j,k1,k2,k3⟩:=hI.get;have H:=Kk m.2.1;have hz:b.zero.cells.size=b.size:=by simpa using H
 have u:0<b.size:=by have:=m.2.2.1; simpa using this
 let place:List (Nat×Nat):=(List.range n).map fun i=>(i*sz b.ty,sz b.ty)
 have k:∀i,i<n->place[i]?=some (i*sz b.ty,sz b.ty):=fun i hi=>by grind
 let zs:=((Array.range (n*b.size)).map (b.zero.cells[· % b.zero.cells.size]!)).toList
 have aD:zs.length=n*sz b.ty:=by simp[zs,hs]
 obtain⟨v,g1,g2,g3⟩:=k0l S ho hE hp (place:=place) (pre:=[]) (post:=zs) Q (by simp) (by grind) (fun i hi=>k i (by omega));simp only[List.nil_append] at g1;have hf:=Sm place _ zs v g1;have t:=XW (fun i:Nat=>place[i]?) (fun i:Nat=>some (i*b.size,b.size)) _ _ _ (fun i q hi=>by
  grind) hf
 have aF:=g2.len (fun c x h=>RT.len h);obtain⟨G',h1,h2,h3,h4,h5⟩:=C0d S (E:=E) (d:=d) (us:=v.toArray) hd (by omega) (by have:=Nat.le_mul_of_pos_right n u; omega);have V:xs.length=n:=by omega
 rw[V] at h5;refine⟨_,G',fun aI aG aA g=>?_,h2,h3,h4,h5⟩;rw[h1];have e1:f.map (fun(i,x)=>(i,a.eval x))=(f.toList.map fun q=>(q.1,a.eval q.2)).toArray:=by
  apply Array.ext';simp only[Array.toList_map]
 have s:¬n*b.size > 2 ^ 24:=by omega
 have l:∀w:World,(newRow E v.toArray).run X.P w=.ok ⟨w.heap.size,0,none⟩ (w.alloc (.cells v.toArray E)):=fun _=>rfl;have F:aC.size=b.size:=k1;simp only[execOp,e1];simp only[Instr.buildSlice,Sem.run_bind,run_underlying hU,Result.andThen,X1 G.w j,F,s,if_false];by_cases y:n*b.size=0
 ·have W:n=0:=by rcases Nat.mul_eq_zero.1 y with h' | h'; exact h'; omega
  have z:Array.map (fun x=>(#[]:Array Value)[x % (#[]:Array Value).size]!) (Array.range (n*b.size))=zs.toArray:=by
   have:zs.length=0:=by rw[aD,W]; simp
   rw[List.eq_nil_of_length_eq_zero this,y];simp
  simp only[y] at z ⊢;simp only[if_true,Sem.run_bind,Sem.run_pure,Result.andThen,z,t,l]
 ·have z:(Array.range (n*b.size)).map (fun x=>b.zero.cells[x % b.zero.cells.size]!)=zs.toArray:=Array.toArray_toList.symm;simp only[y,if_false,Sem.run_bind,Sem.run_pure,Result.andThen,Si G.w j k3,z,t,l]
theorem k0y(S:Sat X G){v:AV}{u:Value}{t:Ty}{g:List (j7 t)}{l:List Nat}{z:Bool}(h:CS G.o v=some ⟨t,g,l,z⟩)(j:AVR G v u) :
  ∃p2 c b2 o2 news,u=.slice p2 g.length c/\(g.length=0∨p2=some ⟨b2,o2,none⟩)/\At G.w b2 o2 news/\AllR (RT (rg G z) G.w t) news g:=by
 have i:∀{k:Bool} {t:Ty} {c:List Value} {x:j7 t},RT (rg G k) G.w t c x->RT (rg G (k||G7 t)) G.w t c x:=fun {k t c x} h=>by
  grind[G7,RT.free,RT.up]
 unfold CS at h;split at h
 ·simp only[oi] at h; cases h;obtain⟨p,d,a,h2,h3,h4⟩:=j;simp only[List.cons.injEq,and_true] at a;rcases h4 with rfl | ⟨b,o,ds,y,hb,e,hall⟩
  ·exact⟨p,d,0,0,[],a,.inl rfl,Sn,rfl⟩
  ·exact⟨p,d,b,o,ds,a,.inr y,e,hall.mapR (fun c x h=>i h)⟩
 ·rename_i id aA;split at h
  ·rename_i E W t' xs s r;rw[ce] at h;split at h
   ·rename_i a;have a:=nb a;simp only[oi] at h; cases h;obtain⟨_,T1,P,t1,V,n,q,g2,Q⟩:=j;rw[r] at q;cases q;have j:=Q a;obtain⟨Y,f,T,H⟩:=S.obs id _ r;cases hg:G.γ id with
    | none =>
      rw[hg] at f;rcases f with ⟨_,hn,_,p,y⟩ | ⟨b,_,_,_,hb,_⟩
      ·have:g=[]:=List.eq_nil_of_length_eq_zero hn;subst this;exact⟨p,0,0,0,[],by grind,.inl rfl,Sn,rfl⟩
      grind
    | some b =>
      rw[hg] at f;obtain⟨o0,F,m,e⟩:=f.at;rcases f with ⟨h,_⟩ | ⟨b',o1,d,cur,hb,hv2,_⟩
      ·cases h
      ·cases hb;rw[hv2] at m; cases m;exact⟨_,F,b,o0,Y,by grind,.inr rfl,e,T.mapR (fun c x h=>i h)⟩
   grind
  grind
 grind
theorem Yp{K:Nat->Prop}{w:World}{t:Ty}:∀{news:List Value} {ys:List (j7 t)},AllR (RT K w t) news ys->∀u∈news,u.oneCell'=true
 | news,[],h,u,a=>by rw[show news=[] from h] at a; cases a
 | _,y :: r,⟨c,d,e,h1,h2⟩,u,a=>by
   rw[e] at a;rcases List.mem_append.1 a with a | a
   ·grind[RT.one]
   ·exact Yp h2 u a
theorem j0b{xs:Array Operand}{b:Array TypeId}{T ty:TypeId}{u v r:Value}{w':World}(d:xs.toList.map a.eval=[u,v])(h:b.toList=[T,T])(e:(Builtin.append_ #[T,T] ty #[u,v]).run X.P G.w=.ok r w') :
  ∀dst pos after g,(execOp a.eval ⟨dst,.call ⟨.builtin .append,xs,b⟩,ty,pos,after,g⟩).run X.P G.w=.ok (.value r) w':=by
 intro dst pos after g;have c:xs.map a.eval=#[u,v]:=by apply Array.ext'; simpa using d
 have f:b=#[T,T]:=Array.ext' (by omega);subst f;simp only[execOp,resolve,c];simp[invoke,builtin,e,Result.andThen]
theorem n0O(j:x7 X.P Γ)(S:Sat X G){T E ty s0 y0 id ver:Nat}{z0:Value}{Y:Ty}{xs:Array Operand}{Ts:Array TypeId}{d:TI}{fr i:Bool}{t:Ty}{l m:List (j7 t)}{aG:List Nat}{u w:Value}{v:AV}
  (hT:c7 Γ T=some ⟨s0,y0,z0,.sl E,Y⟩) (aA:c7 Γ E=some d) (s:c7 G.o id=some (.arr E fr t l ver)) (hs:d.size=sz t) (y:Ts.toList=[T,T])
  (hx:xs.toList.map a.eval=[u,w]) (V:AVR G (.os id ver) u) (hv:CS G.o v=some ⟨t,m,aG,i⟩) (hw:AVR G v w) (hq:SJ l.length m.length d.bytes) :
  Mk X G a (.call ⟨.builtin .append,xs,Ts⟩) ty (.os id (ver+1)) (id,.arr E (fr&&i) t (l++m) (ver+1)):=by
 have f:=j E _ aA
 haveI:AM X.P T E:=⟨(j T _ hT).2.2.2.2.2⟩
 haveI:Info X.P E d.size d.bytes d.zero:=⟨f.1⟩
 have hz:d.zero.cells.size=d.size:=by simpa using Kk f.2.1
 obtain⟨p2,c,b2,o2,n,rfl,H,W,z⟩:=k0y S hv hw;obtain⟨_,T1,aI,t1,aJ,aH,g1,g2,g3⟩:=V;rw[s] at g1;cases g1;have V:=g3 rfl;obtain⟨cs,hO,hA,Q⟩:=S.obs id _ s;rw[<- hs] at hO;obtain⟨v',w',g',F,aD,aC,aF⟩:=u0J (P:=X.P) (T:=T) (ty:=ty) (c:=c) (by have:=f.2.2.1; simpa using this) hz hO H (by rw[z.len (fun c x h=>RT.len h),hs]) W (Yp z) hq.1 hq.2;have h:=S.put (id:=id) (ob:=.arr E (fr&&i) t (l++m) (ver+1)) (r:=v') (g:=g') (w':=w') (go:=G.γ id) ⟨(fun T cs h=>by grind),(fun T aK t' aM aL h=>by grind),by rw[s]; rfl⟩
  (fun b hb=>⟨⟨_,s⟩,hb⟩) aC (fun b hb=>by grind)
  (fun aB=>⟨cs++n,by grind[Gh.put],((z.mapR (fun c x h=>RT.up h (fun k q=>⟨q.1,fun e=>q.2 (by grind)⟩))).app (hA.mapR (fun c x h=>RT.up h (fun k q=>⟨q.1,fun e=>q.2 (by grind)⟩)))).mapR (fun c x F=>RT.same (w:=G.w) aB.hR F),fun b e=>by
    simp only[Gh.put,if_true] at e ⊢;rcases aF with h | h
    ·exact Q b (h ▸ e)
    ·rw[h] at e; cases e; exact Nat.le_trans S.le S.size⟩)
 rw[V] at hx;refine⟨v',_,j0b hx y F,h.1,h.2,rfl,?_,E,fr&&i,t,l++m,ver+1,by rw[show(Gh.put G id (.arr E (fr&&i) t (l++m) (ver+1)) _ _ _).o=(id,.arr E (fr&&i) t (l++m) (ver+1)) :: G.o from rfl,lK]; simp,Nat.le_refl _,fun _=>by simp[Gh.put]⟩;obtain⟨p,c,e⟩:=aD.len;rw[e]; rfl
theorem h0f(k:x7 X.P Γ)(S:Sat X G){T E ty s0 y0 d:Nat}{z0:Value}{H:Ty}{xs:Array Operand}{Ts:Array TypeId}{f:TI}{j:Bool}{t:Ty}{m:List (j7 t)}{aA:List Nat}{w:Value}{v:AV}
  (hT:c7 Γ T=some ⟨s0,y0,z0,.sl E,H⟩) (Q:c7 Γ E=some f) (hd:c7 G.o d=none) (hs:f.size=sz t) (q:Ts.toList=[T,T])
  (hx:xs.toList.map a.eval=[.slice none 0 0,w]) (hv:CS G.o v=some ⟨t,m,aA,j⟩) (hw:AVR G v w) (hq:SJ 0 m.length f.bytes) :
  Mk X G a (.call ⟨.builtin .append,xs,Ts⟩) ty (.os d 0) (d,.arr E j t m 0):=by
 have i:=k E _ Q
 haveI:AM X.P T E:=⟨(k T _ hT).2.2.2.2.2⟩
 haveI:Info X.P E f.size f.bytes f.zero:=⟨i.1⟩
 have hz:f.zero.cells.size=f.size:=by simpa using Kk i.2.1
 obtain⟨p2,c,b2,o2,l,rfl,z,F,u⟩:=k0y S hv hw;obtain⟨v',w',g',y,n,W,Y⟩:=u0J (P:=X.P) (T:=T) (ty:=ty) (c:=c) (by have:=i.2.2.1; simpa using this) hz (Own.nil (w:=G.w) (E:=E) (s:=f.size) (p:=none)) z (by rw[u.len (fun c x h=>RT.len h),hs]) F (Yp u) hq.1 hq.2;simp only[Nat.zero_add,List.nil_append] at n;have h:=S.put (id:=d) (ob:=.arr E j t m 0) (r:=v') (g:=g') (w':=w') (go:=none) (SM hd) (fun _ e=>by cases e) W (fun b hb=>by grind)
  (fun V=>⟨l,by grind[Gh.put],u.mapR (fun c x y=>RT.same (w:=G.w) V.hR y),fun b e=>by
    simp only[Gh.put,if_true] at e ⊢;rcases Y with h | h
    ·rw[h] at e; cases e
    ·rw[h] at e; cases e; exact Nat.le_trans S.le S.size⟩)
 refine⟨v',_,j0b hx q y,h.1,h.2,rfl,?_,E,j,t,m,0,by rw[show(Gh.put G d (.arr E j t m 0) _ _ _).o=(d,.arr E j t m 0) :: G.o from rfl,lK]; simp,Nat.le_refl _,fun _=>by simp[Gh.put]⟩;obtain⟨p,c,e⟩:=n.len;rw[e]; rfl
def Us(X:Cx)(G:Gh)(a:Act)(op:Op)(ty:TypeId)(w:Nat×Ob):Prop :=
 ∃G',(∀dst pos after g,(execOp a.eval ⟨dst,op,ty,pos,after,g⟩).run X.P G.w=.ok .skip G'.w)/\Sat X G'/\GLe G G'/\G'.o=w :: G.o
theorem SN{T ty:TypeId}{x y:Operand}{b o:Nat}{w':World}(c:a.eval x=.pointer (some ⟨b,o,none⟩))(h:(storeVar T ⟨b,o,none⟩ (a.eval y)).run X.P G.w=.ok () w') :
  ∀dst pos after g,(execOp a.eval ⟨dst,.store T x y,ty,pos,after,g⟩).run X.P G.w=.ok .skip w':=by
 intro dst pos after g;simp only[execOp,c];simp[Instr.storeAt,Instr.sureAddr,h,Result.andThen]
theorem m0z(j:x7 X.P Γ)(S:Sat X G){T T' ty id c:Nat}{x y:Operand}{f:TI}{cs vs:List AV}{v:AV}(hT:c7 Γ T=some f)(z:c7 G.o id=some (.box T' cs))(W:AVR G (.ptr id c) (a.eval x))(H:AVR G v (a.eval y))(Q:Cb v=some vs)
  (hl:vs.length=f.size) (l:c+vs.length<=cs.length):Us X G a (.store T x y) ty (id,.box T' (Gi cs c vs)):=by
 haveI:Info X.P T f.size f.bytes f.zero:=⟨(j T _ hT).1⟩
 obtain⟨_,b,V,m⟩:=W;obtain⟨E,i,g1,u,s,F⟩:=S.obs id _ z;rw[V] at u;cases u;obtain⟨t,h1⟩:=Kq Q H;have q:=t.len;have k:=F.len;have n:=Sk (P:=X.P) (T:=T) (o:=c) (v:=a.eval y) rfl (by omega) h1 s (by omega);have hW:=Sj G.w b (B3 i c (a.eval y).cells.toList).toArray;have hB:=setRow_heap G.w b i.toArray (B3 i c (a.eval y).cells.toList).toArray T' (0,0) s;have h:=S.put (id:=id) (ob:=.box T' (Gi cs c vs)) (r:=G.ρ id) (g:=some b) (w':=G.w.setRow b (B3 i c (a.eval y).cells.toList).toArray) (go:=some b) ⟨(fun T cs h=>⟨rfl,_,_,rfl⟩),(fun T Y t' aB aA h=>by grind),by rw[z]; rfl⟩
  (fun E e=>by grind) (WE.of_wr hW) (fun E e=>.inl e) (fun d=>⟨b,_,by simp[Gh.put],by grind[Gh.put],hB,Yh (F.mono d) (t.mono d) l⟩)
 exact⟨_,SN m n,h.1,h.2,rfl⟩
theorem x0Q{a vs:List Value}{o k:Nat}(h:o+vs.length<=k)(c:k<=a.length):(B3 a o vs).take k=B3 (a.take k) o vs:=by
 unfold B3;have b:(List.take o a).length=o:=by rw[List.length_take]; omega
 rw[List.append_assoc,List.take_append,List.take_append,b,List.append_assoc];congr 1
 ·rw[List.take_of_length_le (by rw[b]; omega),List.take_take]; congr 1; omega
 ·congr 1
  ·rw[List.take_of_length_le (by omega)]
  ·rw[List.drop_take]; congr 1; omega
theorem z0M{a vs:List Value}{o k:Nat}(h:o<=a.length):(B3 a (o+k) vs).drop o=B3 (a.drop o) k vs:=by
 grind[B3,List.append_assoc,List.drop_append,List.drop_take,List.length_take,List.drop_drop,min,Nat.add_assoc]
theorem x0Z{cs vs:List Value}{o:Nat}(h:o+vs.length<=cs.length):(B3 cs o vs).length=cs.length:=by
 grind[B3,List.length_append,List.length_take,List.length_drop]
theorem m0y(aB:x7 X.P Γ)(S:Sat X G){T E ty id ver k d:Nat}{x y:Operand}{F:TI}{fr V:Bool}{t:Ty}{l:List (j7 t)}{vs:List AV}{v:AV}{z:j7 t}(hT:c7 Γ T=some F)(ho:c7 G.o id=some (.arr E fr t l ver))(hx:AVR G (.pel id ver k (sz t) d) (a.eval x))
  (hv:AVR G v (a.eval y)) (hc:Cb v=some vs) (hl:vs.length=F.size) (aS:d+vs.length<=sz t) (j:k<l.length) (hd:G9 G.o 24 t (Gi (p8 fr t (l.getD k (b7 t))) d vs)=some (z,[],V)):Us X G a (.store T x y) ty (id,.arr E (fr&&V) t (l.set k z) ver):=by
 haveI:Info X.P T F.size F.bytes F.zero:=⟨(aB T _ hT).1⟩
 obtain⟨_,T1,aN,t1,aO,aK,g1,g2,g3⟩:=hx;rw[ho] at g1;cases g1;obtain⟨b,o,n0,c0,hr,aF⟩:=g3 rfl;obtain⟨cs,hO,hA,aM⟩:=S.obs id _ ho;obtain⟨hV,h1⟩:=Kq hc hv;have aJ:=hV.len;rcases hO with ⟨_,hn,_⟩ | ⟨b',o',cap,cur,hb,hv2,k1,k2,k3,k4,k5⟩
 ·omega
 have q:b'=b/\o'=o:=by rw[hr] at hv2; simp only[Value.slice.injEq,oi,Addr.mk.injEq] at hv2; exact⟨hv2.1.1.symm,hv2.1.2.1.symm⟩
 obtain⟨q,Y⟩:=q;subst q; subst Y;obtain⟨i,c,f,e,hp,hR⟩:=hA.get (fun c x h=>RT.len h) j;have aA:=RT.len hR;have aG:(k+1)*sz t<=l.length*sz t:=Nat.mul_le_mul_right _ j;rw[Nat.add_mul] at aG;have aI:l.length*sz t<=cap*sz t:=Nat.mul_le_mul_right _ k2;have hB:Blk G.w b' cur.toList E:=by unfold Blk; rw[Array.toArray_toList]; exact k1
 have aL:cur.toList.length=o'+cap*sz t:=by omega
 have aH:=Sk (P:=X.P) (T:=T) (o:=o'+(k*sz t+d)) (v:=a.eval y) rfl (by omega) h1 hB (by omega);have hW:=Sj G.w b' (B3 cur.toList (o'+(k*sz t+d)) (a.eval y).cells.toList).toArray;have aD:=setRow_heap G.w b' cur (B3 cur.toList (o'+(k*sz t+d)) (a.eval y).cells.toList).toArray E (0,0) k1;have hD:=DS hR;have W:l.getD k (b7 t)=l[k]:=by simp[j]
 rw[W] at hd;have aC:=hD.len;have H:=XZ S hd (Yh hD hV (by omega));have n:=AllR.set (R:=RT (rg G (fr&&V)) G.w t) (s:=sz t) (fun c x h=>RT.len h) (RT.up H (fun k j=>⟨j.1,fun e=>j.2 (by grind)⟩)) (hA.mapR (fun c x h=>RT.up h (fun k j=>⟨j.1,fun e=>j.2 (by grind)⟩))) j;have m:cs.take (k*sz t)++B3 c d (a.eval y).cells.toList++cs.drop ((k+1)*sz t)=((B3 cur.toList (o'+(k*sz t+d)) (a.eval y).cells.toList).drop o').take (l.length*sz t):=by
  rw[z0M (by omega),x0Q (by omega) (by rw[List.length_drop]; omega),k5,e];have e1:(i++c++f).take (k*sz t)=i:=by rw[List.append_assoc,<- hp,List.take_left]
  have e2:(i++c++f).drop ((k+1)*sz t)=f:=by
   have:(k+1)*sz t=(i++c).length:=by rw[List.length_append,hp,aA,Nat.add_mul]; omega
   rw[this,List.drop_left]
  rw[e1,e2];unfold B3;rw[<- hp];have f1:List.take (i.length+d) (i++c++f)=i++c.take d:=by
   rw[List.append_assoc,List.take_length_add_append,List.take_append_of_le_length (by omega)]
  have f2:List.drop (i.length+d+(a.eval y).cells.toList.length) (i++c++f)=c.drop (d+(a.eval y).cells.toList.length)++f:=by
   rw[List.append_assoc,Nat.add_assoc,List.drop_length_add_append,List.drop_append_of_le_length (by omega)]
  rw[f1,f2];simp
 rw[m] at n;have h:=S.put (id:=id) (ob:=.arr E (fr&&V) t (l.set k z) ver) (r:=G.ρ id) (g:=some b') (w':=G.w.setRow b' (B3 cur.toList (o'+(k*sz t+d)) (a.eval y).cells.toList).toArray) (go:=some b') ⟨(fun T cs h=>by grind),(fun T aP t' aR aQ h=>by grind),by rw[ho]; rfl⟩
  (fun b2 u=>by grind) (WE.of_wr hW) (fun b2 u=>.inl u)
  (fun Q=>⟨_,by
    simp only[Gh.put,if_true,List.length_set];exact .inr ⟨b',o',cap,_,rfl,hv2,aD,k2,k3,by grind[List.size_toArray,x0Z],by grind⟩,n.mapR (fun c x hr=>RT.same (w:=G.w) Q.hR hr),fun b e=>by grind[Gh.put]⟩)
 exact⟨_,SN aF aH,h.1,h.2,rfl⟩
theorem s0G(aB:x7 X.P Γ)(S:Sat X G)(ho:G.o=st.o)(W:EnvR X.n G st.e a)(hp:PathP p a){op:Op}{ty:TypeId}{d:Nat}{q:Prop}{r:AV}{w:Nat×Ob}{l:List Nat}
  (h:AR Γ st p d op=some (q,r,w,l)) (hq:q):Mk X G a op ty r w:=by
 unfold AR at h;split at h
 ·split at h
  ·rename_i ti hT;split at h
   ·rename_i cs hz;rw[ce] at h
    grind[oi,pj,p0n,DV]
   grind
  grind
 ·split at h
  ·rename_i v hv;split at h
   ·rename_i cs hc;rw[ce] at h
    grind[oi,pj,w0v,DV]
   grind
  grind
 ·split at h
  ·rename_i f n g n' _ _ _ E _ j k x;split at h
   ·rename_i s h4;split at h
    ·rename_i Te t aC;rw[ce] at h
     grind[oi,pj,j0r,DV]
    ·split at h
     ·rename_i cs Y;split at h
      ·rename_i z Q h6;rw[ce] at h;split at h
       ·rename_i b;rw[ba] at b
        grind[oi,pj,i0p,DV,nb]
       grind
      grind
     grind
   grind
  grind
 ·split at h
  ·rename_i j;split at h
   ·rename_i s k;split at h
    ·rename_i xs Q x;rw[ce] at h;split at h
     ·rename_i b;simp only[ba] at b
      grind[oi,pj,h0d,DV,nb,Nat.le_of_ble_eq_true]
     grind
    grind
   grind
  grind
 ·split at h
  ·rename_i id aD v T T2 j k;split at h
   ·rename_i _ _ _ E _ E' fr t l' aA t' m V Q x h4 Y;split at h
    ·rename_i s m' h6 h7;rw[ce] at h;split at h
     ·rename_i b;simp only[ba] at b;simp only[oi,pj] at h;obtain⟨rfl,rfl,rfl,_⟩:=h;obtain⟨e,rfl⟩:=DR h7;cases e;have e1:=nb b.1.1.1;have e2:=nb b.1.1.2;have e3:=nb b.1.2;have H:=nb b.2;subst e1; subst e2; subst H;obtain⟨u,y,e,F,w,c,e',hw,i⟩:=Br W hp j;have i:c=[]:=i
      grind[n0O]
     grind
    grind
   grind
  ·rename_i v T T2 j k;split at h
   ·rename_i _ _ _ E _ t m V Q x Y;split at h
    ·rename_i s h6;rw[ce] at h;split at h
     ·rename_i b;simp only[ba] at b;simp only[oi,pj] at h;obtain⟨rfl,rfl,rfl,_⟩:=h;have H:=nb b.2;subst H;obtain⟨u,y,e,F,w,c,e',hw,i⟩:=Br W hp j;have i:c=[]:=i;have F:u=_:=F
      grind[h0f,DV,nb]
     grind
    grind
   grind
  grind
 grind
theorem s0C(c:x7 X.P Γ)(S:Sat X G)(ho:G.o=st.o)(d:EnvR X.n G st.e a)(f:PathP p a){x:Op}{ty:TypeId}{q:Prop}{w:Nat×Ob}{l:List Nat}
  (h:Cd Γ st p x=some (q,w,l)) (H:q):Us X G a x ty w:=by
 unfold Cd at h;split at h
 ·split at h
  ·rename_i id j v y r g i;split at h
   ·rename_i T' cs T F m;rw[ce] at h;split at h
    ·rename_i b;rw[ba] at b;simp only[oi,pj] at h;obtain⟨_,rfl,_⟩:=h;exact m0z c S i (by grind) (C8 d f r) (C8 d f g) m (nb b.1) (Nat.le_of_ble_eq_true b.2)
    grind
   grind
  ·rename_i id Q k s j v y r g i;split at h
   ·rename_i E fr t Y u T F m;split at h
    ·rename_i z fl h6;rw[ce] at h;split at h
     ·rename_i b;simp only[ba] at b;simp only[oi,pj] at h;obtain⟨rfl,rfl,_⟩:=h;have W:=nb b.1.1.1;have V:=nb b.1.1.2;subst W; subst V;exact m0y c S i (by grind) (C8 d f r) (C8 d f g) m (nb b.1.2) (Nat.le_of_ble_eq_true b.2) H (by grind)
     grind
    grind
   grind
  grind
 grind
end
inductive Par
 | dat (t:Ty)
 | agg (t:Ty)
 | io (T:TypeId) (t:Ty)
 | fn (f:FuncId) (c:Ty)
 | nof (f:FuncId)
 | nil
 | os (E:TypeId) (t:Ty)
@[reducible] def N0s:Par->Type
  | .dat t=>j7 t
  | .agg t=>j7 t
  | .io _ t=>j7 t
  | .fn _ c=>j7 c
  | .nof _=>Unit
  | .nil=>Unit
  | .os _ t=>List (j7 t)
@[reducible] def w9:List Par->Type
  | []=>Unit
  | p :: r=>N0s p×w9 r
@[reducible] def B1:List Par->Type
  | []=>Unit
  | .io _ t :: _=>j7 t
  | _ :: r=>B1 r
structure Gj(ps:List Par) where
 q:Prop
 r:AV
 z:B1 ps
structure Ct where
 f:FuncId
 ps:List Par
 res:w9 ps->Gj ps
def ArgsR(K:Nat->Prop)(w:World):Option Nat->(ps:List Par)->w9 ps->List Value->Prop
 | go,[],_,vs=>vs=[]/\go=none
 | go,.dat t :: r,x,vs=>∃v us,vs=v :: us/\RT K w t [v] x.1/\ArgsR K w go r x.2 us
 | go,.agg t :: r,x,vs=>∃cs us,vs=.agg cs.toArray :: us/\RT K w t cs x.1/\ArgsR K w go r x.2 us
 | go,.fn f c :: r,x,vs=>∃cs us,vs=.func (.func f) #[] cs.toArray :: us/\RT K w c cs x.1/\ArgsR K w go r x.2 us
 | go,.nof f :: r,x,vs=>∃us,vs=.func (.func f) #[] #[] :: us/\ArgsR K w go r x.2 us
 | go,.nil :: r,x,vs=>∃us,vs=.pointer none :: us/\ArgsR K w go r x.2 us
 | go,.io T t :: r,x,vs=>∃b cs us,vs=.pointer (some ⟨b,0,none⟩) :: us/\go=some b/\¬K b/\Blk w b cs T/\RT K w t cs x.1/\ArgsR K w none r x.2 us
 | go,.os E t :: r,x,vs=>∃v cs us,vs=v :: us/\(∀b,go=some b->¬K b)/\v.oneCell'=true/\Own w E (sz t) go v x.1.length cs/\AllR (RT K w t) cs x.1/\ArgsR K w none r x.2 us
def D9:List Par->Bool
 | []=>false
 | .os _ _ :: _=>true
 | .dat _ :: r=>D9 r
 | .agg _ :: r=>D9 r
 | .fn _ _ :: r=>D9 r
 | .nof _ :: r=>D9 r
 | .nil :: r=>D9 r
 | .io _ _ :: r=>D9 r
def IOR(K:Nat->Prop)(w:World)(go:Option Nat):(ps:List Par)->B1 ps->Prop
 | [],_=>True
 | .io T t :: _,z=>∃b cs,go=some b/\Blk w b cs T/\RT K w t cs z
 | .dat _ :: r,z=>IOR K w go r z
 | .agg _ :: r,z=>IOR K w go r z
 | .fn _ _ :: r,z=>IOR K w go r z
 | .nof _ :: r,z=>IOR K w go r z
 | .nil :: r,z=>IOR K w go r z
 | .os _ _ :: r,z=>IOR K w go r z
/- The result: data lead Z0 K; each row that is handed over lies in a block of its own of the list, or has no block. -/
mutual
def ResR(K:Bool->Nat->Prop)(w:World):AV->Value->List (Option Nat)->Prop
 | .v x,u,gs=>u=x/\gs=[]
 | .d fr t x,u,gs=>RT (K fr) w t [u] x/\gs=[]
 | .agg xs,u,gs=>∃us:List Value,u=.agg us.toArray/\ResRs K w xs us gs
 | .tup xs,u,gs=>∃us:List Value,u=.tuple us.toArray/\ResRs K w xs us gs
 | .ob T xs,u,gs=>∃b us gs',gs=some b :: gs'/\u=.pointer (some ⟨b,0,none⟩)/\Blk w b us T/\ResRs K w xs us gs'
 | .ow T fr t xs,u,gs=>∃g cs,gs=[g]/\u.oneCell'=true/\Own w T (sz t) g u xs.length cs/\AllR (RT (K fr) w t) cs xs
 | _,_,_=>False
def ResRs(K:Bool->Nat->Prop)(w:World):List AV->List Value->List (Option Nat)->Prop
 | [],us,gs=>us=[]/\gs=[]
 | a :: r,us,gs=>∃u us' g1 g2,us=u :: us'/\gs=g1++g2/\ResR K w a u g1/\ResRs K w r us' g2
end
def CT:List (Option Nat)->Prop
 | []=>True
 | g :: r=>(∀b,g=some b->some b ∉ r)/\CT r
def Om(fr:Bool)(K:Nat->Prop)(w w':World)(gs:List (Option Nat))(k:Nat):Prop:=((fr=false/\K k)∨w.heap.size<=k)/\UFg w' w.heap.size k/\some k ∉ gs
def Ok(P:Program)(c:Ct):Prop:=AN P c.f=true/\∀(x:w9 c.ps),(c.res x).q->∀(w:World) (vs:List Value) (go:Option Nat) (K:Nat->Prop),(∀k,K k->k<w.heap.size)->ArgsR K w go c.ps x vs ->
 Calls P c.f vs.toArray w fun en w'=>∃v gs,en=.returned v/\WE go w w'/\CT gs/\(∀b,some b∈gs->w.heap.size<=b∨(D9 c.ps=true/\go=some b))/\ResR (fun fr=>Om fr K w w' gs) w' (c.res x).r v gs /\
  IOR (fun k=>(K k∨w.heap.size<=k)/\UFg w' w.heap.size k/\some k ∉ gs/\go≠some k) w' go c.ps (c.res x).z
def CU(o:List (Nat×Ob)):(p:Par)->AV->Option (N0s p×List Nat×Option Nat)
 | .dat t,a=>match G9 o 24 t [a] with
   | some (x,l,_)=>some (x,l,none)
   | none=>none
 | .agg t,.agg cs=>match G9 o 24 t cs with
   | some (x,l,_)=>some (x,l,none)
   | none=>none
 | .fn f c,.fn f' cs=>bif Nat.beq f f' then(match G9 o 24 c cs with
   | some (x,l,_)=>some (x,l,none)
   | none=>none) else none
 | .nof f,.fn f' []=>bif Nat.beq f f' then some ((),[],none) else none
 | .io T t,.ptr id 0=>match c7 o id with
   | some (.box T' cs)=>bif Nat.beq T T' then(match G9 o 24 t cs with
     | some (x,[],_)=>some (x,[],some id)
     | _=>none) else none
   | _=>none
 | .os E t,.os id ver=>match c7 o id with
   | some (.arr E' _ t' xs ver')=>bif Nat.beq E E'&&Nat.beq ver ver' then(match X2 (.sl t') (.sl t) xs with
     | some x=>some (x,[],some id)
     | none=>none) else none
   | _=>none
 | .nil,.v (.pointer none)=>some ((),[],none)
 | _,_=>none
def P4(o:List (Nat×Ob)):(ps:List Par)->List AV->Option (w9 ps×List Nat×Option Nat)
 | [],[]=>some ((),[],none)
 | p :: r,a :: as'=>match CU o p a with
   | some (x,l,i)=>match P4 o r as' with
     | some (y,m,j)=>match i,j with
       | none,j=>some ((x,y),l++m,j)
       | some i,none=>some ((x,y),l++m,some i)
       | _,_=>none
     | none=>none
   | none=>none
 | _,_=>none
theorem Gk{o:List (Nat×Ob)}:∀(n:Nat) {t:Ty} {cs:List AV} {x:j7 t} {l:List Nat} {fl:Bool},G9 o n t cs=some (x,l,fl)->∀id∈l,∃ob,c7 o id=some ob:=by
 intro n
 induction n with
 | zero=>grind[G9]
 | succ n i =>
   intro t cs x l fl h;have g:∀(t:Ty) (c:AV) (x:j7 t),AO o (G9 o n) t c=some (x,l,fl)->∀id∈l,∃ob,c7 o id=some ob:=by
    intro t c x h;unfold AO at h;split at h
    ·grind
    ·grind
    ·grind
    ·grind
    ·cases h
   have f:∀(t:Ty) (x:j7 t) (r:Option (j7 t×List Nat×Bool)),r=some (x,l,fl)->r=(match(generalizing:=false) cs with | [c]=>AO o (G9 o n) t c | _=>none)->∀id∈l,∃ob,c7 o id=some ob:=by
    intro t x r e d;rw[e] at d;have h:=d.symm;split at h
    ·grind
    ·cases h
   cases t with
   | pr a b =>
     unfold G9 at h
     grind
   | _=>exact f _ _ _ h rfl
def Am(G:Gh)(ids:List Nat)(k:Nat):Prop:=G.K k∨∃id∈ids,G.γ id=some k
theorem Yq{X:Cx}{G:Gh}(S:Sat X G){all:List Nat}(v:∀id∈all,∃ob,c7 G.o id=some ob):∀{ps:List Par} {as':List AV} {us:List Value} {x:w9 ps} {l:List Nat} {io:Option Nat},P4 G.o ps as'=some (x,l,io)->(∀id∈l,id∈all)->(∀i,io=some i->i ∉ all)->AVRs G as' us ->
  (∀id∈l,∃ob,c7 G.o id=some ob)/\∃go,ArgsR (Am G all) G.w go ps x us/\((io=none/\go=none)∨(∃id b T cs,io=some id/\go=some b/\c7 G.o id=some (.box T cs)/\G.γ id=some b)∨∃id E fr t xs ver,io=some id/\go=G.γ id/\c7 G.o id=some (.arr E fr t xs ver)/\D9 ps=true)
 | [],[],us,x,l,io,h,hl,hio,hA=>by
   simp only[P4,oi,pj] at h;obtain⟨_,rfl,rfl⟩:=h;exact⟨(fun id h=>by cases h),none,⟨hA,rfl⟩,.inl ⟨rfl,rfl⟩⟩
 | [],_ :: _,us,x,l,io,h,hl,hio,hA=>by grind[P4]
 | _ :: _,[],us,x,l,io,h,hl,hio,hA=>by grind[P4]
 | p :: r,a :: as',us,x,l,io,h,hl,hio,hA=>by
   obtain⟨u,g,rfl,F,aA⟩:=hA;have hK:∀k,G.K k->Am G all k:=fun k hk=>.inl hk;simp only[P4] at h;split at h
   ·rename_i x1 l1 i1 d;split at h
    ·rename_i y m j Y;have hx:x=(x1,y)/\l=l1++m/\((i1=none/\io=j)∨(∃i,i1=some i/\j=none/\io=some i)):=by
      split at h
      ·grind
      ·grind
      ·cases h
     obtain⟨rfl,rfl,q⟩:=hx;have aF:∀id∈l1,id∈all:=fun id P=>hl id (by grind);have hm:∀id∈m,id∈all:=fun id P=>hl id (by grind);have hB:∀id∈l1,∀b,G.γ id=some b->Am G all b:=fun id P b Q=>.inr ⟨id,aF id P,Q⟩;obtain⟨aK,go,V,n⟩:=Yq S v Y hm (fun i hi=>by
      grind) aA
     have f:(∀id∈l1,∃ob,c7 G.o id=some ob)->∀id∈l1++m,∃ob,c7 G.o id=some ob:=fun h id P=>by
      grind
     unfold CU at d;split at d
     ·split at d
      ·rename_i x0 l0 f0 z;simp only[oi,pj] at d;obtain⟨rfl,rfl,rfl⟩:=d;refine⟨f (Gk 24 z),go,⟨u,g,rfl,RT.up (Gf S hK 24 z hB ⟨u,[],rfl,F,rfl⟩) (fun k h=>h.1),V⟩,?_⟩;rcases q with ⟨_,e⟩ | ⟨i',e,_⟩
       ·rw[e]; exact n
       grind
      grind
     ·split at d
      ·rename_i x0 l0 f0 z;simp only[oi,pj] at d;obtain⟨rfl,rfl,rfl⟩:=d;obtain⟨cs,rfl,s⟩:=F;refine⟨f (Gk 24 z),go,⟨cs,g,rfl,RT.up (Gf S hK 24 z hB s) (fun k h=>h.1),V⟩,?_⟩;rcases q with ⟨_,e⟩ | ⟨i',e,_⟩
       ·rw[e]; exact n
       grind
      grind
     ·rw[ce] at d;split at d
      ·rename_i hf;split at d
       ·rename_i x0 l0 f0 z;simp only[oi,pj] at d;obtain⟨rfl,rfl,rfl⟩:=d;obtain⟨cs,rfl,s⟩:=F;refine⟨f (Gk 24 z),go,⟨cs,g,by simp_all,RT.up (Gf S hK 24 z hB s) (fun k h=>h.1),V⟩,?_⟩;rcases q with ⟨_,e⟩ | ⟨i',e,_⟩
        ·rw[e]; exact n
        grind
       grind
      grind
     ·rw[ce] at d;split at d
      ·rename_i hf;simp only[oi,pj] at d;obtain⟨_,rfl,rfl⟩:=d;obtain⟨cs,rfl,s⟩:=F;have s:cs=[]:=s;subst s;refine⟨f (fun id h=>by cases h),go,⟨g,by simp_all,V⟩,?_⟩;rcases q with ⟨_,e⟩ | ⟨i',e,_⟩
       ·rw[e]; exact n
       grind
      grind
     ·rename_i T t id _;split at d
      ·rename_i T' cs H;rw[ce] at d;split at d
       ·rename_i hT;have hT:=nb hT;subst hT;split at d
        ·rename_i x0 f0 z;simp only[oi,pj] at d;obtain⟨rfl,rfl,rfl⟩:=d;rcases q with ⟨e,_⟩ | ⟨i',e,rfl,rfl⟩
         ·cases e
         cases e;obtain⟨_,b,Q,rfl⟩:=F;obtain⟨b',vs,W,g2,g3,g4⟩:=S.obs id _ H;rw[Q] at g2;cases g2;rcases n with ⟨_,rfl⟩ | ⟨_,_,_,_,e,_⟩ | ⟨_,_,_,_,_,_,e,_⟩
         ·refine⟨f (fun id h=>by cases h),some b,⟨b,vs,g,rfl,rfl,?_,g3,RT.up (Gf S hK 24 z hB g4) (fun k h=>h.1),V⟩,.inr (.inl ⟨id,b,T,cs,rfl,rfl,H,W⟩)⟩;rintro(h | ⟨i2,Y,h3⟩)
          ·exact S.imm id _ b H W h
          ·obtain⟨aB,h4⟩:=v i2 Y;have:=S.inj i2 id _ _ b h4 H h3 W
           grind
         ·cases e
         grind
        grind
       grind
      grind
     ·rename_i E t id ver _;split at d
      ·rename_i E' fr t' xs aH H;rw[ce] at d;split at d
       ·rename_i Q;rw[ba] at Q;have e1:=nb Q.1;have e2:=nb Q.2;subst e1; subst e2;split at d
        ·rename_i x0 hc;simp only[oi,pj] at d;obtain⟨rfl,rfl,rfl⟩:=d;rcases q with ⟨e,_⟩ | ⟨i',e,rfl,rfl⟩
         ·cases e
         cases e;obtain⟨et,rfl⟩:=DR hc;cases et;obtain⟨aD,T1,aI,t1,aJ,aG,W,g2,g3⟩:=F;rw[H] at W;cases W;have F:=g3 rfl;obtain⟨cs,hO,aC,_⟩:=S.obs id _ H;rcases n with ⟨_,rfl⟩ | ⟨_,_,_,_,e,_⟩ | ⟨_,_,_,_,_,_,e,_⟩
         ·refine⟨f (fun id h=>by cases h),G.γ id,⟨u,cs,g,rfl,?_,aD,by grind,aC.mapR (fun c x h=>RT.up h (fun k hk=>.inl hk.1)),V⟩,.inr (.inr ⟨id,_,fr,_,_,_,rfl,rfl,H,rfl⟩)⟩;intro b hg;rintro(h | ⟨i2,Y,h3⟩)
          ·exact S.imm id _ b H hg h
          ·obtain⟨aB,h4⟩:=v i2 Y;have:=S.inj i2 id _ _ b h4 H h3 hg
           grind
         ·cases e
         grind
        grind
       grind
      grind
     ·simp only[oi,pj] at d;obtain⟨_,rfl,rfl⟩:=d;have F:u=.pointer none:=F;subst F;refine⟨f (fun id h=>by cases h),go,⟨g,rfl,V⟩,?_⟩;rcases q with ⟨_,e⟩ | ⟨i',e,_⟩
      ·rw[e]; exact n
      grind
     grind
    grind
   grind
end Go.Proofs.Xv
end
