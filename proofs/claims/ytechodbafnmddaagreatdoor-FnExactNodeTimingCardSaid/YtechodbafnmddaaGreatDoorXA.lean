/- A logic of symbolic frames: each step of a function's code is taken by one lemma, the frame is a short list of the slots that are known. Over any program. -/
import Derived.WalkKit
import Derived.Deep.LoopGhost
import Derived.IntWalk
import Derived.Deep.Quiet
import Derived.Laws.CopyRow
import Derived.ProofKit
import Derived.ChangeArms
import Derived.Carry
import Derived.Deep.RegionHeld3
import Derived.Laws.MakeOwn
import Derived.Laws.BytesArg
import Derived.Maps.AppendAt
import Derived.Deep.Upon
import Derived.Laws.StructEq
import Derived.Laws.Pointers
import Derived.Lib.Join
import Derived.Lib.ItoaLen
import Derived.Laws.Slices
set_option maxHeartbeats 0
namespace Go.Proofs
theorem oi {c:Type _} (a b:c):(some a=some b)=(a=b):=Option.some.injEq a b
theorem pj {e f:Type _} (a:e) (b:f) (c:e) (d:f):((a,b)=(c,d))=(a=c∧b=d):=Prod.mk.injEq a b c d
theorem ba (a b:Bool):((a&&b)=true)=(a=true∧b=true):=Bool.and_eq_true a b
theorem nb {n m:Nat} (h:n.beq m=true):n=m:=Nat.eq_of_beq_eq_true h
theorem ce {a:Sort _} (b:Bool) (t e:a):(bif b then t else e)=if b=true then t else e:=cond_eq_ite b t e
theorem gq {b:Type _} {l:List b} {i:Nat} {a:b}:l.getD i a=l[i]?.getD a:=List.getD_eq_getElem?_getD
theorem dq {p:Prop} [Decidable p]:(decide p=true)=p:=decide_eq_true_eq
theorem oo {a b:Prop} (h:a:=by omega) (k:b:=by omega):a∧b:=⟨h,k⟩
end Go.Proofs
section
namespace Go.Proofs.Sv
open Go Go.RowKit
abbrev x9:=List (Nat×Value)
def lk:x9->Nat->Option Value
 | [],_=>none
 | (d,v) :: e,t=>cond (Nat.beq d t) (some v) (lk e t)
def ev(e:x9):Operand->Option Value
 | .tmp t=>lk e t
 | .const v=>some v
 | .global g=>some (.pointer (some ⟨g,0,none⟩))
 | .func f=>some (.func (.func f) #[] #[])
def evl(e:x9):List Operand->Option (List Value)
 | []=>some []
 | x :: r=>match ev e x,evl e r with | some v,some vs=>some (v :: vs) | _,_=>none
def Agree(n:Nat)(e:x9)(a:Act):Prop:=a.defers=[]/\a.tmps.size=n/\∀t v,lk e t=some v->a.tmps.getD t undef=v
theorem OF(d:Nat)(v:Value)(e:x9)(t:Nat):lk ((d,v) :: e) t=if d=t then some v else lk e t:=by
 show cond (Nat.beq d t) (some v) (lk e t)=_
 simp_all
theorem Agree.ev{n:Nat}{e:x9}{a:Act}(h:Agree n e a){x:Operand}{v:Value}(b:ev e x=some v):a.eval x=v:=by
 cases x with
 | tmp t=>exact h.2.2 t v b
 | const u=>grind[Sv.ev,Act.eval]
 | global g=>grind[Sv.ev,Act.eval]
 | func f=>grind[Sv.ev,Act.eval]
theorem Agree.evl{n:Nat}{e:x9}{a:Act}(h:Agree n e a):∀{xs:List Operand} {vs:List Value},evl e xs=some vs->xs.map a.eval=vs
 | [],vs,hx=>by grind[Sv.evl]
 | x :: r,vs,hx=>by
   unfold Sv.evl at hx;split at hx
   ·rename_i v d c b;simp at hx; subst hx;simp[h.ev c,h.evl b]
   grind
theorem Agree.put{n:Nat}{e:x9}{a:Act}(h:Agree n e a)(d:Nat)(g:Nat.blt d n=true)(v:Value):Agree n ((d,v) :: e) (a.put (some d) v):=by
 have f:d<a.tmps.size:=by rw[h.2.1]; simpa using g
 refine⟨h.1,?_,fun t u c=>?_⟩
 ·simp[Act.put,h.2.1]
 ·rw[OF] at c;by_cases b:d=t
  ·subst b;simp only[if_true,oi] at c;subst c;simp[Act.put,f]
  ·simp only[b,if_false] at c;have:=h.2.2 t u c;simp only[Act.put]
   simp_all
def Sub(e' e:x9):Prop:=∀t v,lk e' t=some v->lk e t=some v
theorem Agree.sub{n:Nat}{e e':x9}{a:Act}(h:Agree n e a)(b:Sub e' e):Agree n e' a:=⟨h.1,h.2.1,fun t v c=>h.2.2 t v (b t v c)⟩
def VO(P:Program)(n:Nat)(ops:Array Oper)(l:List Oper)(e:x9)(w:World)(Q:Exit->Act->World->Prop):Prop:=∀a,Agree n e a->wpList P ops Q l a w
def OG(P:Program)(y:Code)(Q:Exit->Act->World->Prop):Exit->Act->World->Prop:=Exit.then (y.wp P Q) Q
def OH(id:Nat)(Q:Exit->Act->World->Prop):Exit->Act->World->Prop:=Exit.inBlock id Q
section
variable {P:Program} {n:Nat} {e:x9} {w:World} {Q:Exit->Act->World->Prop}
end
def B7(P:Program)(n:Nat)(e:x9)(op:Op)(ty:TypeId)(w:World)(v:Value)(w':World):Prop :=
 ∀a dst pos after g,Agree n e a->(execOp a.eval ⟨dst,op,ty,pos,after,g⟩).run P w=.ok (.value v) w'
def J0c(P:Program)(n:Nat)(e:x9)(op:Op)(ty:TypeId)(w:World)(w':World):Prop :=
 ∀a dst pos after g,Agree n e a->(execOp a.eval ⟨dst,op,ty,pos,after,g⟩).run P w=.ok .skip w'
section
variable {P:Program} {n:Nat} {e:x9} {w:World} {Q:Exit->Act->World->Prop} {ops:Array Oper} {rest:List Oper}
theorem J0f{d:Nat}{c:Op}{ty:TypeId}{pos:String}{after:Array Edge}{w':World}(v:Value)(i:B7 P n e c ty w v w')(g:Nat.blt d n=true)
  (h:VO P n ops rest ((d,v) :: e) w' Q):VO P n ops (⟨some d,c,ty,pos,after,none⟩ :: rest) e w Q:=by
 intro a b;refine wpList_plain rfl fun K f=>?_;unfold Oper.wp;rw[i a (some d) pos after none b];exact f _ _ (h _ (b.put d g v))
theorem H0m{b:Op}{ty:TypeId}{pos:String}{after:Array Edge}{w':World}(d:J0c P n e b ty w w')
  (h:VO P n ops rest e w' Q):VO P n ops (⟨none,b,ty,pos,after,none⟩ :: rest) e w Q:=by
 intro a c;refine wpList_plain rfl fun K f=>?_;unfold Oper.wp;rw[d a none pos after none c];exact f _ _ (h _ c)
def Tn:BinOp->Int->Int->Option Bool
 | .eql,a,b=>some (a==b)
 | .neq,a,b=>some (a != b)
 | .lss,a,b=>some (decide (a<b))
 | .leq,a,b=>some (decide (a<=b))
 | .gtr,a,b=>some (decide (a > b))
 | .geq,a,b=>some (decide (a≥b))
 | _,_,_=>none
def OI:BinOp->ByteArray->ByteArray->Option Bool
 | .eql,a,b=>some (decide (a=b))
 | .neq,a,b=>some (!decide (a=b))
 | _,_,_=>none
def LS:BinOp->Value->Value->Option Value
 | op,.int k a,.int k' b=>if k=k' then(match Tn op a b with | some r=>some (.bool r) | none=>none) else none
 | op,.string a,.string b=>match OI op a b with | some r=>some (.bool r) | none=>none
 | _,_,_=>none
def Ak(e:x9):Op->Option Value
 | .move x=>ev e x
 | .assign x=>ev e x
 | .pick c a b=>match ev e c with
   | some (.bool true)=>ev e a
   | some (.bool false)=>ev e b
   | _=>none
 | .unOp .not _ x=>match ev e x with
   | some (.bool b)=>some (.bool (!b))
   | _=>none
 | .extract x i=>match ev e x with
   | some (.tuple vs)=>vs.toList[i]?
   | _=>none
 | .binOp op _ x y _=>match ev e x,ev e y with
   | some u,some v=>LS op u v
   | _,_=>none
 | .makeFunc fn first cap=>match evl e first.toList,evl e cap.toList with
   | some fs,some cs=>some (.func fn fs.toArray cs.toArray)
   | _,_=>none
 | _=>none
theorem w0I(a b:ByteArray):(a.toList==b.toList)=decide (a=b):=by
 rw[Bool.eq_iff_iff,beq_iff_eq,dq,ByteArray.toList_eq,ByteArray.toList_eq];constructor
 ·intro h; cases a; simp_all
 grind
theorem BF{l:Op}{ty:TypeId}{v:Value}(h:Ak e l=some v):B7 P n e l ty w v w:=by
 intro a H t m g b;unfold Ak at h;split at h
 ·simp only[execOp,b.ev h]; rfl
 ·simp only[execOp,b.ev h]; rfl
 ·rename_i c x y;split at h
  ·rename_i f; simp only[execOp,b.ev f,<- b.ev h]; rfl
  ·rename_i f; simp only[execOp,b.ev f,<- b.ev h]; rfl
  grind
 ·split at h
  ·rename_i f; simp only[oi] at h; subst h; simp only[execOp,b.ev f]; rfl
  grind
 ·split at h
  ·rename_i Q f; rw[Array.getElem?_toList] at h; simp only[execOp,b.ev f,Instr.extract,h]; rfl
  grind
 ·rename_i l T x y Y;split at h
  ·rename_i u W o s;unfold LS at h;split at h
   ·rename_i k p k' q;split at h
    ·rename_i E; subst E;split at h
     ·rename_i r d;simp only[oi] at h; subst h;unfold Tn at d;split at d <;> simp only[oi,reduceCtorEq] at d <;> subst d <;> simp[execOp,b.ev o,b.ev s,eqGuard,binOp,Op.intCmp]
     grind
    grind
   ·rename_i p q;split at h
    ·rename_i r d;simp only[oi] at h; subst h;unfold OI at d;split at d <;> simp only[oi,reduceCtorEq] at d <;> subst d <;> simp[execOp,b.ev o,b.ev s,eqGuard,binOp,Op.stringOp,w0I]
    grind
   grind
  grind
 ·split at h
  ·rename_i V X i j;simp only[oi] at h; subst h;have G:=b.evl i;have F:=b.evl j;have z:∀(x:Array Operand),x.map a.eval=(x.toList.map a.eval).toArray:=fun x=>by grind
   simp only[execOp,Instr.makeFunc,z,G,F];rfl
  grind
 grind
end
def P4(P:Program)(T:TypeId):Bool:=match P.underlying T with
 | some (.struct _) | some (.array ..) | none=>false
 | _=>true
class OJ(P:Program)(T:TypeId):Prop where h:P4 P T=true
class X1(P:Program)(T:TypeId)(E:outParam TypeId):Prop where h:P.underlying T=some (.slice E)
class LU(P:Program)(T:TypeId):Prop where h:P.underlying T=some .string
def OK(P:Program)(T:TypeId):Option (Nat×Nat×Option Value):=(P.info? T).map fun i=>(i.size,i.bytes,i.zero)
class Info(P:Program)(T:TypeId)(size bytes:outParam Nat)(z:outParam Value):Prop where h:OK P T=some (size,bytes,some z)
def Al(P:Program)(T:TypeId):Bool:=match P.underlying T with
 | some (.struct _) | some (.array ..)=>true
 | _=>false
class OL(P:Program)(T:TypeId):Prop where h:Al P T=true
def LV(P:Program)(T:TypeId)(k:Nat):Option (Nat×Bool):=match P.underlying T with
 | some (.struct fs)=>match fs[k]? with
   | some f=>some (f.offset,match P.info? f.type with | some i=>!(i.size==0) | none=>false)
   | none=>none
 | _=>none
class u0x(P:Program)(T:TypeId)(k:Nat)(off:outParam Nat):Prop where h:LV P T k=some (off,true)
def AT(P:Program)(f:Nat):Bool:=match P.funcs[f]? with
 | some fn => !(fn.name == "runtime.NumGoroutine") && fn.body.isSome
 | none=>false
class To(P:Program)(f:Nat):Prop where h:AT P f=true
theorem g0g{P:Program}{T:TypeId}{i:TypeInfo}(w:World)(h:P.info? T=some i):(typeInfo T).run P w=.ok i w:=by
 have a:(program).run P w=.ok P w:=rfl;unfold typeInfo
 simp_all
theorem P5{P:Program}{T:TypeId}{i:TypeInfo}(w:World)(h:P.info? T=some i):(sizeOf T).run P w=.ok i.size w:=by
 unfold sizeOf; rw[Sem.run_bind,g0g w h]; rfl
theorem OM{P:Program}{T:TypeId}{i:TypeInfo}{z:Value}(w:World)(h:P.info? T=some i)(hz:i.zero=some z):(zeroValue T).run P w=.ok z w:=by
 unfold zeroValue; rw[Sem.run_bind,g0g w h]; simp_all
theorem Info.get{P:Program}{T s y:Nat}{z:Value}(h:Info P T s y z):∃i,P.info? T=some i/\i.size=s/\i.bytes=y/\i.zero=some z:=by
 have hi:=h.h;unfold OK at hi
 simp_all
def Blk(w:World)(b:Nat)(cs:List Value)(T:TypeId):Prop:=w.heap[b]?=some (.cells cs.toArray T (0,0))
def At(w:World)(b o:Nat)(cs:List Value):Prop:=∀i u,cs[i]?=some u->w.cell? ⟨b,o+i,none⟩=some u
abbrev Ext(w w':World):Prop:=Below w.heap.size w w'
theorem Ext.refl(w:World):Ext w w:=Below.refl _ _
theorem Ext.trans{a b c:World}(h:Ext a b)(k:Ext b c):Ext a c:=Below.trans h (Below.mono k h.size)
theorem Blk.lt{w:World}{b:Nat}{cs:List Value}{T:TypeId}(h:Blk w b cs T):b<w.heap.size:=by
 grind[Nat.lt_or_ge,Blk,Array.getElem?_eq_none]
theorem Blk.ext{w w':World}{b:Nat}{cs:List Value}{T:TypeId}(h:Blk w b cs T)(k:Ext w w'):Blk w' b cs T:=by
 unfold Blk; rw[k.block b h.lt]; exact h
theorem Blk.up{w w':World}{b:Nat}{cs:List Value}{T:TypeId}(h:Blk w b cs T)(k:Ext w w'):Blk w' b cs T:=h.ext k
theorem Blk.at{w:World}{b:Nat}{cs:List Value}{T:TypeId}(h:Blk w b cs T):At w b 0 cs:=by
 intro i u a;unfold World.cell?;rw[show(⟨b,0+i,none⟩:Addr).block=b from rfl,h]
 grind
theorem At.lt{w:World}{b o:Nat}{cs:List Value}(h:At w b o cs)(d:0<cs.length):b<w.heap.size:=by
 have c:=h 0 cs[0] (by grind);rcases Nat.lt_or_ge b w.heap.size with a | a
 ·exact a
 ·unfold World.cell? at c; grind
theorem At.same{w w':World}{b o:Nat}{cs:List Value}(h:At w b o cs)(k:b<w.heap.size->w'.heap[b]?=w.heap[b]?):At w' b o cs:=by
 intro i u a;have d:0<cs.length:=by rcases Nat.lt_or_ge i cs.length with c | c; omega; rw[List.getElem?_eq_none c] at a; cases a
 have:=h i u a;rw[<- this];exact World.cell?_of_block (w:=w) (k (h.lt d))
theorem At.ext{w w':World}{b o:Nat}{cs:List Value}(h:At w b o cs)(k:Ext w w'):At w' b o cs:=h.same (fun a=>k.block b a)
theorem At.up{w w':World}{b o:Nat}{cs:List Value}(h:At w b o cs)(k:Ext w w'):At w' b o cs:=h.ext k
theorem At.mid{w:World}{b o:Nat}{pre c post:List Value}(h:At w b o (pre++c++post)):At w b (o+pre.length) c:=by
 intro i u d;have e:i<c.length:=by rcases Nat.lt_or_ge i c.length with a | a; exact a; rw[List.getElem?_eq_none a] at d; cases d
 have:=h (pre.length+i) u (by grind)
 grind
structure R0s(w:World)(b:Nat)(w':World):Prop where
 eq:w.heap.size=b
 ext:Ext w w'
 size:w'.heap.size=b+1
structure Wr(b:Nat)(w w':World):Prop where
 os:w'.os=w.os
 tape:w'.tape=w.tape
 output:w'.output=w.output
 size:w'.heap.size=w.heap.size
 block:∀k,k≠b->w'.heap[k]?=w.heap[k]?
theorem Wr.below{b B:Nat}{w w':World}(h:Wr b w w')(a:B<=b):Below B w w':=⟨h.os,h.tape,h.output,by rw[h.size]; exact Nat.le_refl _,fun k c=>h.block k (by omega)⟩
theorem Tp(w:World)(o:Obj):R0s w w.heap.size (w.alloc o):=⟨rfl,(Below.refl _ _).alloc (Nat.le_refl _) _,by simp⟩
theorem Tq(w:World)(cs:Array Value)(T:TypeId):Blk (w.alloc (.cells cs T)) w.heap.size cs.toList T:=by
 unfold Blk World.alloc; simp
section
variable {P:Program} {n:Nat} {e:x9} {w:World} {Q:Exit->Act->World->Prop} {ops:Array Oper} {rest:List Oper}
 {d:Nat} {ty:TypeId} {pos:String} {after:Array Edge}
theorem i0o{T:TypeId}{x:Operand}{b o f c:Nat}[t:u0x P T f c](v:ev e x=some (.pointer (some ⟨b,o,none⟩))) :
  B7 P n e (.fieldAddr T x f) ty w (.pointer (some ⟨b,o+c,none⟩)) w:=by
 intro a y q l g s;have h:=t.h;unfold LV at h;split at h
 ·rename_i E j;split at h
  ·rename_i u d;simp only[oi,pj] at h;obtain⟨z,m⟩:=h;split at m
   ·rename_i i hi;have r:¬i.size=0:=by simpa using m
    have k:(Addr.mk b o none).add u.offset=⟨b,o+c,none⟩:=by
     unfold Addr.add;rw[z];split
     ·grind
     ·rfl
    simp only[execOp,s.ev v];simp[Instr.fieldAt,run_underlying j,d,Instr.sureAddr,fieldPlace,P5 w hi,r,Result.andThen,k]
   grind
  grind
 grind
theorem h0G{T:TypeId}{e:Addr}{v:Value}[f:OJ P T](h:w.cell? e=some v):(loadVar T e).run P w=.ok v w:=by
 have c:=f.h;unfold P4 at c;split at c
 ·cases c
 ·cases c
 ·cases c
 ·rename_i g j k;cases hu:P.underlying T with
  | none=>grind
  | some d =>
    have:(isAgg T).run P w=.ok false w:=by
     unfold isAgg;simp only[Sem.run_bind,run_underlying hu,Result.andThen];cases d with
     | struct i=>grind
     | array a b=>grind
     | _=>rfl
    simp[loadVar,this,h,load,Sem.run,Result.andThen]
theorem s0C{T:TypeId}{x:Operand}{c:Addr}{v:Value}[OJ P T](i:ev e x=some (.pointer (some c)))(h:w.cell? c=some v):B7 P n e (.load T x) ty w v w:=by
 intro a j d b g f;simp only[execOp,f.ev i];simp[Instr.loadAt,Instr.sureAddr,h0G h,Result.andThen]
theorem h0H{T:TypeId}{b o s y:Nat}{z:Value}{cs:List Value}[m:OL P T][i:Info P T s y z](q:cs.length=s)(h:At w b o cs):(loadVar T ⟨b,o,none⟩).run P w=.ok (.agg cs.toArray) w:=by
 have e:=m.h;unfold Al at e;obtain⟨k,c,g,t,u⟩:=i.get;have l:(isAgg T).run P w=.ok true w:=by
  split at e
  ·rename_i r d; unfold isAgg; simp[run_underlying d,Result.andThen]
  ·rename_i a b d; unfold isAgg; simp[run_underlying d,Result.andThen]
  ·cases e
 have f:=run_loadCells_list (P:=P) w ⟨b,o,none⟩ cs (fun j v n=>by
  have:=h j v n
  grind[Addr.add])
 rw[q,<- g] at f;simp[loadVar,l,P5 w c,Result.andThen,f]
theorem q0g{T:TypeId}{x:Operand}{b o s y:Nat}{z:Value}{cs:List Value}[OL P T][Info P T s y z](i:ev e x=some (.pointer (some ⟨b,o,none⟩)))(k:cs.length=s)(h:At w b o cs):B7 P n e (.load T x) ty w (.agg cs.toArray) w:=by
 intro a j d c g f;simp only[execOp,f.ev i];simp[Instr.loadAt,Instr.sureAddr,h0H k h,Result.andThen]
theorem v0M{T T':TypeId}{x y:Operand}{a b:Int}(j:ev e x=some (.int .i64 a))(i:ev e y=some (.int .i64 b))(h : -9223372036854775808<=a+b/\a+b<=9223372036854775807) :
  B7 P n e (.binOp .add T x y T') ty w (.int .i64 (a+b)) w:=by
 intro l k f c g d;simp only[execOp,d.ev j,d.ev i];simp[eqGuard,binOp,Op.intArith,IntWalk.i64_in _ h]
theorem v0C{T T':TypeId}{x y:Operand}{a b:Int}(j:ev e x=some (.int .i64 a))(i:ev e y=some (.int .i64 b))(h : -9223372036854775808<=a-b/\a-b<=9223372036854775807) :
  B7 P n e (.binOp .sub T x y T') ty w (.int .i64 (a-b)) w:=by
 intro l k f c g d;simp only[execOp,d.ev j,d.ev i];simp[eqGuard,binOp,Op.intArith,IntWalk.i64_in _ h]
theorem v0I{T T':TypeId}{x y:Operand}{a b:Int}(j:ev e x=some (.int .i64 a))(i:ev e y=some (.int .i64 b))(h : -9223372036854775808<=a*b/\a*b<=9223372036854775807) :
  B7 P n e (.binOp .mul T x y T') ty w (.int .i64 (a*b)) w:=by
 intro l k f c g d;simp only[execOp,d.ev j,d.ev i];simp[eqGuard,binOp,Op.intArith,IntWalk.i64_in _ h]
theorem v0L{T T':TypeId}{x y:Operand}{s t:ByteArray}(h:ev e x=some (.string s))(f:ev e y=some (.string t))(j:s.size+t.size<=9223372036854775807) :
  B7 P n e (.binOp .add T x y T') ty w (.string (s++t)) w:=by
 intro k i d b g c;have a:¬(9223372036854775807:Int) < (s.size:Int)+(t.size:Int):=by omega
 simp only[execOp,c.ev h,c.ev f];simp[eqGuard,binOp,Op.stringOp,a]
theorem g0h{f:Nat}[h:To P f](a:Array Value):(callFunc f a).run P w=.ok (.enter f a) w:=by
 have b:=h.h;unfold AT at b;split at b
 ·rename_i e d;simp only[ba,Bool.not_eq_true',Option.isSome_iff_exists] at b;obtain⟨j,c,i⟩:=b;have g:(program).run P w=.ok P w:=rfl;unfold callFunc
  simp_all
 grind
end
class H7(P:Program):Prop where h:P.follows .mixedOrders=true
section
variable {P:Program} {n:Nat} {e:x9} {w:World} {Q:Exit->Act->World->Prop} {ops:Array Oper} {rest:List Oper}
 {d:Nat} {ty:TypeId} {pos:String} {after:Array Edge}
end
class Rep(α:Type) where
 sz:Nat
 pos:0<sz
 rep:Nat->Nat->World->List Value->α->Prop
 len:∀{lo hi w cs x},rep lo hi w cs x->cs.length=sz
 same:∀{lo hi w w' cs x},rep lo hi w cs x->(∀k,lo<=k->k<hi->k<w.heap.size->w'.heap[k]?=w.heap[k]?)->rep lo hi w' cs x
 wide:∀{lo hi lo' hi' w cs x},rep lo hi w cs x->lo'<=lo->hi<=hi'->rep lo' hi' w cs x
def J9(x:Int):Prop := -9223372036854775808<=x/\x<=9223372036854775807
instance:Rep Int where
 sz:=1
 pos:=Nat.one_pos
 rep _ _ _ cs x:=cs=[.int .i64 x]/\J9 x
 len h:=by grind
 same h _:=h
 wide h _ _:=h
instance:Rep Bool where
 sz:=1
 pos:=Nat.one_pos
 rep _ _ _ cs x:=cs=[.bool x]
 len h:=by grind
 same h _:=h
 wide h _ _:=h
instance:Rep ByteArray where
 sz:=1
 pos:=Nat.one_pos
 rep _ _ _ cs x:=cs=[.string x]/\x.size<=9223372036854775807
 len h:=by grind
 same h _:=h
 wide h _ _:=h
section
variable {α:Type} [Rep α]
def All(lo hi:Nat)(w:World):List Value->List α->Prop
 | cs,[]=>cs=[]
 | cs,x :: r=>∃c d,cs=c++d/\Rep.rep lo hi w c x/\All lo hi w d r
theorem All.len{lo hi:Nat}{w:World}:∀{cs:List Value} {xs:List α},All lo hi w cs xs->cs.length=xs.length*Rep.sz α
 | cs,[],h=>by rw[show cs=[] from h]; simp
 | cs,x :: r,h=>by
   obtain⟨c,d,rfl,b,a⟩:=h;rw[List.length_append,Rep.len b,All.len a,List.length_cons,Nat.add_mul]; omega
theorem All.same{lo hi:Nat}{w w':World}(k:∀k,lo<=k->k<hi->k<w.heap.size->w'.heap[k]?=w.heap[k]?):∀{cs:List Value} {xs:List α},All lo hi w cs xs->All lo hi w' cs xs
 | _,[],h=>h
 | _,_ :: _,h=>by
   obtain⟨c,d,rfl,b,a⟩:=h;exact⟨c,d,rfl,Rep.same b k,All.same k a⟩
theorem All.wide{lo hi a b:Nat}{w:World}(f:a<=lo)(e:hi<=b):∀{cs:List Value} {xs:List α},All lo hi w cs xs->All a b w cs xs
 | _,[],h=>h
 | _,_ :: _,h=>by
   obtain⟨c,d,rfl,g,i⟩:=h;exact⟨c,d,rfl,Rep.wide g f e,All.wide f e i⟩
theorem All.app{lo hi:Nat}{w:World}{ds:List Value}{a:List α}(k:All lo hi w ds a):∀{cs:List Value} {xs:List α},All lo hi w cs xs->All lo hi w (cs++ds) (xs++a)
 | cs,[],h=>by rw[show cs=[] from h]; exact k
 | _,_ :: _,h=>by
   obtain⟨c,d,rfl,e,b⟩:=h;exact⟨c,d++ds,by simp,e,All.app k b⟩
theorem All.one{lo hi:Nat}{w:World}{c:List Value}{x:α}(h:Rep.rep lo hi w c x):All lo hi w c [x]:=⟨c,[],by simp,h,rfl⟩
theorem All.get{lo hi:Nat}{w:World}:∀{cs:List Value} {xs:List α} {i:Nat} (_:All lo hi w cs xs) (hi':i<xs.length),
  ∃pre c post,cs=pre++c++post/\pre.length=i*Rep.sz α/\Rep.rep lo hi w c xs[i]
 | _,x :: r,0,h,_=>by
   obtain⟨c,d,rfl,b,a⟩:=h;exact⟨[],c,d,by simp,by simp,b⟩
 | _,x :: r,i+1,h,hi'=>by
   obtain⟨c,d,rfl,b,a⟩:=h;obtain⟨pre,f,post,rfl,g,e⟩:=All.get a (i:=i) (by grind)
   grind[List.length_append,Rep.len,Nat.add_mul]
def SlR(lo hi:Nat)(w:World)(v:Value)(xs:List α):Prop :=
 ∃p cap,v=.slice p xs.length cap/\xs.length<=cap/\cap<=9223372036854775807 /\
  (xs=[]∨∃b o cs,p=some ⟨b,o,none⟩/\lo<=b/\b<hi/\At w b o cs/\All lo hi w cs xs)
theorem SlR.same{lo hi:Nat}{w w':World}{v:Value}{xs:List α}(h:SlR lo hi w v xs)(k:∀k,lo<=k->k<hi->k<w.heap.size->w'.heap[k]?=w.heap[k]?):SlR lo hi w' v xs:=by
 obtain⟨p,a,f,d,e,c⟩:=h;refine⟨p,a,f,d,e,?_⟩;rcases c with c | ⟨b,o,cs,hp,hlo,hhi,hat,hall⟩
 ·grind
 ·exact .inr ⟨b,o,cs,hp,hlo,hhi,hat.same (k b hlo hhi),hall.same k⟩
theorem SlR.wide{lo hi a c:Nat}{w:World}{v:Value}{xs:List α}(h:SlR lo hi w v xs)(k:a<=lo)(i:hi<=c):SlR a c w v xs:=by
 obtain⟨p,d,f,g,j,e⟩:=h;refine⟨p,d,f,g,j,?_⟩;rcases e with e | ⟨b,o,cs,hp,hlo,hhi,hat,hall⟩
 ·grind
 ·exact .inr ⟨b,o,cs,hp,by omega,by omega,hat,hall.wide k i⟩
instance:Rep (List α) where
 sz:=1
 pos:=Nat.one_pos
 rep lo hi w cs xs:=∃v,cs=[v]/\SlR lo hi w v xs
 len:=by grind
 same:=by rintro lo hi w w' cs x ⟨v,rfl,h⟩ k; exact⟨v,rfl,h.same k⟩
 wide:=by rintro lo hi lo' hi' w cs x ⟨v,rfl,h⟩ h1 h2; exact⟨v,rfl,h.wide h1 h2⟩
theorem Rep.up{lo hi:Nat}{w w':World}{cs:List Value}{x:α}(h:Rep.rep lo hi w cs x)(k:Ext w w'):Rep.rep lo hi w' cs x:=Rep.same h (fun i _ _ a=>k.block i a)
theorem Rep.below{lo hi B:Nat}{w w':World}{cs:List Value}{x:α}(h:Rep.rep lo hi w cs x)(k:Below B w w')(a:hi<=B):Rep.rep lo hi w' cs x:=Rep.same h (fun i _ b _=>k.block i (by omega))
theorem SlR.up{lo hi:Nat}{w w':World}{v:Value}{xs:List α}(h:SlR lo hi w v xs)(k:Ext w w'):SlR lo hi w' v xs:=h.same (fun i _ _ a=>k.block i a)
theorem SlR.below{lo hi B:Nat}{w w':World}{v:Value}{xs:List α}(h:SlR lo hi w v xs)(k:Below B w w')(a:hi<=B):SlR lo hi w' v xs:=h.same (fun i _ b _=>k.block i (by omega))
theorem SlR.len{lo hi:Nat}{w:World}{v:Value}{xs:List α}(h:SlR lo hi w v xs):∃p cap,v=.slice p xs.length cap:=by obtain⟨p,cap,a,_⟩:=h; grind
theorem SlR.le{lo hi:Nat}{w:World}{v:Value}{xs:List α}(h:SlR lo hi w v xs):xs.length<=9223372036854775807:=by obtain⟨p,a,c,b,d,_⟩:=h; omega
theorem SlR.nil{lo hi:Nat}{w:World}:SlR lo hi w (.slice none 0 0) ([]:List α):=⟨none,0,rfl,Nat.le_refl _,by omega,.inl rfl⟩
theorem SlR.get{lo hi:Nat}{w:World}{p:Option Addr}{a d:Nat}{xs:List α}(h:SlR lo hi w (.slice p a d) xs){i:Nat}(e:i<xs.length) :
  a=xs.length/\∃b o c,p=some ⟨b,o,none⟩/\lo<=b/\b<hi/\At w b (o+i*Rep.sz α) c/\Rep.rep lo hi w c xs[i]:=by
 obtain⟨r,j,k,q,s,g⟩:=h;simp only[Value.slice.injEq] at k;obtain⟨rfl,rfl,rfl⟩:=k;refine⟨rfl,?_⟩;rcases g with g | ⟨b,o,cs,hp,hlo,hhi,hat,hall⟩
 ·grind
 ·obtain⟨m,c,f,rfl,l,n⟩:=hall.get e;refine⟨b,o,c,hp,hlo,hhi,?_,n⟩;rw[<- l]; exact hat.mid
end
section
variable {P:Program} {n:Nat} {e:x9} {w:World} {Q:Exit->Act->World->Prop} {ops:Array Oper} {rest:List Oper}
 {d:Nat} {ty:TypeId} {pos:String} {after:Array Edge}
theorem Tr{T E s y:Nat}{z:Value}{x ix:Operand}{b o d j k:Nat}{u:IntKind}[h:X1 P T E][i:Info P E s y z](F:ev e x=some (.slice (some ⟨b,o,none⟩) d j))(hi:ev e ix=some (.int u (k:Int)))(Q:k<d) :
  B7 P n e (.indexAddr T x ix) ty w (.pointer (some ⟨b,o+k*s,none⟩)) w:=by
 intro a v r m g q;obtain⟨t,c,G,H,V⟩:=i.get;have f:(Addr.mk b o none).add (k*s)=⟨b,o+k*s,none⟩:=by
  unfold Addr.add;split
  ·grind
  ·rfl
 have l:0<=(k:Int)/\(k:Int) < (d:Int):=oo;simp only[execOp,q.ev F,q.ev hi];simp only[Instr.indexAt,asIntOf,Sem.run_bind,run_underlying h.h,Result.andThen,Sem.run_pure,l,and_self,if_true,P5 w c,G,Int.toNat_natCast,f]
variable {α:Type} [Rep α]
end
def u6(cs:List Value)(o:Nat)(vs:List Value):List Value:=cs.take o++vs++cs.drop (o+vs.length)
def ones:List Value->Bool
 | []=>true
 | v :: r=>v.oneCell'&&ones r
theorem o0N:∀{vs:List Value},ones vs=true->∀v∈vs,v.oneCell'=true
 | [],_,_,h=>by cases h
 | u :: r,h,v,hv=>by
   simp only[ones,ba] at h;rcases List.mem_cons.1 hv with rfl | hv
   ·grind
   ·exact o0N h.2 v hv
theorem c0Z(w:World)(g k:Nat)(cs:Array Value)(h:k≠g):(w.setRow g cs).heap[k]?=w.heap[k]?:=by
 grind[World.setRow]
theorem ON(w:World)(g:Nat)(cs:Array Value):Wr g w (w.setRow g cs) :=
 ⟨rfl,rfl,rfl,by simp_all,fun k a=>c0Z w g k cs a⟩
def BG:List Value->Nat->Bool
 | [],0=>true
 | _ :: r,k+1=>BG r k
 | _,_=>false
theorem HM:∀{vs:List Value} {k:Nat},BG vs k=true->vs.length=k
 | [],0,_=>rfl
 | _ :: r,k+1,h=>by simp[HM (vs:=r) (k:=k) h]
 | [],_+1,h=>by cases h
 | _ :: _,0,h=>by cases h
section
variable {P:Program} {n:Nat} {e:x9} {w:World} {Q:Exit->Act->World->Prop} {ops:Array Oper} {rest:List Oper}
 {d:Nat} {ty:TypeId} {pos:String} {after:Array Edge}
theorem Tt{T T' s y:Nat}{z:Value}{b o:Nat}{cs vs:List Value}{v:Value}[i:Info P T s y z](e:v.cells.toList=vs)(k:vs.length=s)(l:ones vs=true)(j:Blk w b cs T')(f:o+vs.length<=cs.length) :
  (storeVar T ⟨b,o,none⟩ v).run P w=.ok () (w.setRow b (u6 cs o vs).toArray):=by
 obtain⟨d,a,g,n,m⟩:=i.get;have c:v.cells.size=d.size:=by rw[g,<- k,<- e]; simp
 have h:=run_storeCells_at (P:=P) b o T' vs 0 cs.toArray w j (by simpa using f) (o0N l);unfold storeVar;simp only[Sem.run_bind,P5 w a,Result.andThen,c,ne_eq,not_true_eq_false,if_false,e]
 grind[u6]
def AU(place:List (Nat×Nat)):List Value->List (Nat×Value)->Option (List Value)
 | cs,[]=>some cs
 | cs,(i,v) :: r=>match place[i]? with
   | none=>none
   | some p=>bif BG v.cells.toList p.2&&Nat.ble (p.1+p.2) cs.length then AU place (u6 cs p.1 v.cells.toList) r else none
theorem v0v(v:Value)(r cs:List Value)(o:Nat)(h:o+(r.length+1)<=cs.length):u6 cs o (v :: r)=u6 (cs.set o v) (o+1) r:=by
 obtain⟨A,C,e,rfl⟩:∃A C:List Value,A.length=o/\cs=A++C:=⟨cs.take o,cs.drop o,by grind,by simp⟩;subst e;cases C with
 | nil=>grind
 | cons x C =>
   simp only[u6,List.length_cons,List.set_append_right _ _ (Nat.le_refl _),Nat.sub_self,List.set_cons_zero];have b:List.take A.length (A++x :: C)=A:=by simp
   have c:List.take (A.length+1) (A++v :: C)=A++[v]:=by
    rw[List.take_append,List.take_of_length_le (by omega)]; simp
   have d:List.drop (A.length+(r.length+1)) (A++x :: C)=List.drop r.length C:=by
    rw[List.drop_append,List.drop_eq_nil_of_le (by omega)]; simp
   have a:List.drop (A.length+1+r.length) (A++v :: C)=List.drop r.length C:=by
    rw[show A.length+1+r.length=A.length+(r.length+1) by omega,List.drop_append,List.drop_eq_nil_of_le (by omega)]; simp
   rw[b,c,d,a]; simp
theorem m0i(a:Nat):∀(vs:List Value) (j:Nat) (cs:Array Value),a+j+vs.length<=cs.size ->
  ((vs.zipIdx j).foldl (fun cs (c,j)=>cs.setIfInBounds (a+j) c) cs).toList=u6 cs.toList (a+j) vs
 | [],j,cs,h=>by simp[u6]
 | v :: r,j,cs,h=>by
   simp only[List.zipIdx_cons,List.foldl_cons];rw[m0i a r (j+1) _ (by grind),v0v v r _ _ (by omega)]
   grind
theorem OO(place:List (Nat×Nat)):∀(parts:List (Nat×Value)) (cs ds:List Value),AU place cs parts=some ds->Instr.fill (fun i=>place[i]?) cs.toArray parts=some ds.toArray
 | [],cs,ds,h=>by simp only[AU,oi] at h; subst h; rfl
 | (i,v) :: r,cs,ds,h=>by
   unfold AU at h;split at h
   ·cases h
   ·rename_i p e;cases hb:(BG v.cells.toList p.2&&Nat.ble (p.1+p.2) cs.length) with
    | false=>grind
    | true =>
      rw[hb] at h;simp only[cond_true] at h;simp only[ba] at hb;have g:=HM hb.1;have a:=Nat.le_of_ble_eq_true hb.2;have b:v.cells.size=p.2:=by rw[<- g]; simp
      have f:=OO place r _ _ h;unfold Instr.fill;simp only[e];rw[if_neg (by simp[b,a])];have d:=m0i p.1 v.cells.toList 0 cs.toArray (by simp[b,a]);have c:Array.foldl (fun cs (x:Value×Nat)=>cs.setIfInBounds (p.1+x.2) x.1) cs.toArray v.cells.zipIdx=(u6 cs p.1 v.cells.toList).toArray:=by
       rw[<- Array.foldl_toList];apply Array.ext';simpa using d
      exact(congrArg (fun q=>Instr.fill (fun i=>place[i]?) q r) c).trans f
def HN(P:Program)(T:TypeId):Option (List (Nat×Nat)):=match P.underlying T with
 | some (.struct fs)=>some (fs.toList.map fun f=>(f.offset,match P.info? f.type with | some i=>i.size | none=>0))
 | _=>none
def LW(P:Program)(T:TypeId):Bool:=match P.underlying T with
 | some (.struct fs)=>fs.toList.all fun f=>(P.info? f.type).isSome
 | _=>false
class p0K(P:Program)(T:TypeId)(pl:outParam (List (Nat×Nat))):Prop where
 h:HN P T=some pl
 ok:LW P T=true
def evp(e:x9):List (Nat×Operand)->Option (List (Nat×Value))
 | []=>some []
 | (i,x) :: r=>match ev e x,evp e r with | some v,some vs=>some ((i,v) :: vs) | _,_=>none
theorem Agree.evp{a:Act}(h:Agree n e a):∀{xs:List (Nat×Operand)} {vs:List (Nat×Value)},evp e xs=some vs->xs.map (fun(i,x)=>(i,a.eval x))=vs
 | [],vs,hx=>by grind[Sv.evp]
 | (i,x) :: r,vs,hx=>by
   unfold Sv.evp at hx;split at hx
   ·rename_i v d c b;simp at hx; subst hx;simp[h.ev c,Agree.evp h b]
   grind
theorem l0w(w:World):∀(fs:List Field),(fs.all fun f=>(P.info? f.type).isSome)=true ->
  (fs.mapM (fun f=>do Pure.pure (f.offset,<- sizeOf f.type):Field->Sem (Nat×Nat))).run P w=.ok (fs.map fun f=>(f.offset,match P.info? f.type with | some i=>i.size | none=>0)) w
 | [],_=>rfl
 | f :: r,h=>by
   simp only[List.all_cons,ba,Option.isSome_iff_exists] at h;obtain⟨⟨i,hi⟩,a⟩:=h;rw[List.mapM_cons];simp only[Sem.run_bind,P5 w hi,Result.andThen,Sem.run_pure,l0w w r a,List.map_cons,hi]
theorem q0j{T s y:Nat}{z:Value}{pl:List (Nat×Nat)}{b:List (Nat×Operand)}{vs:List (Nat×Value)}{cs:List Value}[i:Info P T s y z][p:p0K P T pl](E:evp e b=some vs)(v:AU pl z.cells.toList vs=some cs) :
  B7 P n e (.build T b.toArray) ty w (.agg cs.toArray) w:=by
 intro a V t q g G;obtain⟨F,c,W,X,Q⟩:=i.get;have j:=p.h;have m:=p.ok;unfold HN at j;unfold LW at m;split at j
 ·rename_i l d;rw[d] at m;simp only[oi] at j;have r:=l0w (P:=P) w l.toList m;rw[j] at r;have o:=OO pl vs z.cells.toList cs v;have u:b.toArray.map (fun(i,x)=>(i,a.eval x))=vs.toArray:=by rw[<- Agree.evp G E]; simp
  have k:(l.mapM (fun f=>do Pure.pure (f.offset,<- sizeOf f.type):Field->Sem (Nat×Nat))).run P w=.ok pl.toArray w:=by
   rw[Array.mapM_eq_mapM_toList];show(Functor.map List.toArray (List.mapM _ l.toList):Sem _).run P w=_;rw[map_eq_pure_bind,Sem.run_bind,r];rfl
  have H:(fun i:Nat=>pl.toArray[i]?)=(fun i:Nat=>pl[i]?):=by funext i; simp
  simp only[execOp,u];simp only[Instr.build,Sem.run_bind,OM w c Q,Result.andThen,run_underlying d,k,H]
  simp_all
 grind
class HO(P:Program)(T:TypeId):Prop where h:P.underlying T=some .bool
theorem m0l(c:Nat){T:TypeId}{a b:Bool}[h:HO P T]:(Op.equalIn (c+1) T (.bool a) (.bool b)).run P w=.ok (a==b) w:=by simp[Op.equalIn,run_underlying h.h]
theorem v0J{T T':TypeId}{x y:Operand}{a b:Bool}[h:HO P T](k:ev e x=some (.bool a))(j:ev e y=some (.bool b)):B7 P n e (.binOp .eql T x y T') ty w (.bool (a==b)) w:=by
 intro m l f c g d;have i:(Op.equal T (.bool a) (.bool b)).run P w=.ok (a==b) w:=m0l 9999;simp only[execOp,d.ev k,d.ev j];simp[eqGuard,binOp,i,Result.andThen]
theorem v0H{T T':TypeId}{x y:Operand}{a b:Bool}[h:HO P T](k:ev e x=some (.bool a))(j:ev e y=some (.bool b)):B7 P n e (.binOp .neq T x y T') ty w (.bool (!(a==b))) w:=by
 intro m l f c g d;have i:(Op.equal T (.bool a) (.bool b)).run P w=.ok (a==b) w:=m0l 9999;simp only[execOp,d.ev k,d.ev j];simp[eqGuard,binOp,i,Result.andThen]
theorem Tu(f g:Nat->Option (Nat×Nat)):∀(parts:List (Nat×Value)) (cs ds:Array Value),(∀i p,f i=some p->g i=some p)->Instr.fill f cs parts=some ds->Instr.fill g cs parts=some ds
 | [],_,_,_,h=>h
 | (i,v) :: r,cs,ds,hfg,h=>by
   unfold Instr.fill at h ⊢;cases hf:f i with
   | none=>grind
   | some p =>
     rw[hf] at h;rw[hfg i p hf];obtain⟨b,a⟩:=p;simp only at h ⊢;split at h
     ·cases h
     ·rename_i c; rw[if_neg c]; exact Tu f g r _ _ hfg h
def L0:Nat->List Value->List Value
 | 0,_=>[]
 | k+1,z=>z++L0 k z
def B3(s:ByteArray)(k:Nat):Int:=((s.data.toList.getD k 0).toNat:Int)
theorem u0a(s:ByteArray)(k:Nat):0<=B3 s k:=by grind[B3]
theorem u0b(s:ByteArray)(k:Nat):B3 s k<=255:=by unfold B3; have:=(s.data.toList.getD k 0).toNat_lt; omega
theorem q0h{T:TypeId}{x ix:Operand}{s:ByteArray}{k:Nat}{i:IntKind}[h:LU P T](m:ev e x=some (.string s))(hi:ev e ix=some (.int i (k:Int)))(c:k<s.size) :
  B7 P n e (.index T x ix) ty w (.int .u8 (B3 s k)) w:=by
 intro a o f b g d;have j:0<=(k:Int):=by omega
 have q:s[k]?=some s[k]:=by simp[c]
 simp only[execOp,d.ev m,d.ev hi];simp only[Instr.index,asIntOf,Sem.run_bind,Sem.run_pure,Result.andThen,run_underlying h.h,j,if_true,Int.toNat_natCast,q];congr 3;have l:k<s.data.toList.length:=by simpa using c
 have:s[k]=s.data.toList[k]:=rfl
 grind[B3,List.getElem?_eq_getElem]
end
class HP(P:Program)(T:TypeId)(α:Type)[Rep α]:Prop where
 op:∀{H:Type} {enc:TypeId×Value->H} {w:World} {sp:Nat->Bool} {hl:Bool} {fuel:Nat} {cs:List Value} {x:DataW H×List MemPlace},
  DataW.trod enc P w 0 sp hl fuel T cs=some x->∃y:α,Rep.rep 0 w.heap.size w cs y
class R0t(P:Program)(T:TypeId):Prop where h:P.underlying T=some (.int .i64)
class Tv(P:Program)(T:TypeId):Prop where h:P.underlying T=some (.int .u8)
instance:Rep UInt8 where
 sz:=1
 pos:=Nat.one_pos
 rep _ _ _ cs x:=cs=[.int .u8 (x.toNat:Int)]
 len h:=by grind
 same h _:=h
 wide h _ _:=h
instance {P:Program}{T:TypeId}[hT:R0t P T]:HP P T Int where
 op:=by
  intro H enc w sp hl fuel cs x h;obtain⟨n,rfl,_,hw⟩:=DataW.trod_int hT.h h;refine⟨n,rfl,?_⟩;simp only[Lit.wf,ba,dq] at hw;have h1:IntKind.i64.min = -9223372036854775808:=rfl;have h2:IntKind.i64.max=9223372036854775807:=rfl;rw[h1,h2] at hw;exact hw
instance {P:Program}{T:TypeId}[hT:Tv P T]:HP P T UInt8 where
 op:=by
  intro H enc w sp hl fuel cs x h;obtain⟨n,rfl,_,hw⟩:=DataW.trod_int hT.h h;simp only[Lit.wf,ba,dq] at hw;have h1:IntKind.u8.min=0:=rfl;have h2:IntKind.u8.max=255:=rfl;rw[h1,h2] at hw;refine⟨UInt8.ofNat n.toNat,?_⟩;show [Value.int .u8 n]=[Value.int .u8 _];have:(UInt8.ofNat n.toNat).toNat=n.toNat:=by simp; omega
  grind
instance {P:Program}{T:TypeId}[hT:HO P T]:HP P T Bool where
 op:=by
  intro H enc w sp hl fuel cs x h;obtain⟨b,rfl,_⟩:=DataW.trod_bool hT.h h;exact⟨b,rfl⟩
instance {P:Program}{T:TypeId}[hT:LU P T]:HP P T ByteArray where
 op:=by
  intro H enc w sp hl fuel cs x h;obtain⟨s,rfl,_,hs⟩:=DataW.trod_string hT.h h;exact⟨s,rfl,by grind[maxLen]⟩
theorem HQ{w:World}{c:Nat}{a:Addr}{n:Nat}{cs:List Value}(e:0<n)(h:w.cells? c a n=some cs):a=⟨a.block,a.off,none⟩/\cs.length=n/\At w a.block a.off cs:=by
 obtain⟨_,g,k⟩:=World.cells?_some h;obtain⟨b,o,sp⟩:=a;have d:sp=none:=by
  have j:=k 0 e;have f:(Addr.mk b o sp).add 0=⟨b,o,sp⟩:=by simp[Addr.add]
  rw[f,List.getElem?_eq_getElem (by omega)] at j;cases sp with
  | none=>rfl
  | some q =>
    grind[World.cell?]
 subst d;refine⟨rfl,g,fun i u l=>?_⟩
 grind[Nat.lt_or_ge,List.getElem?_eq_none,Addr.add]
theorem At.app{w:World}{b o:Nat}{cs ds:List Value}(h:At w b o cs)(k:At w b (o+cs.length) ds):At w b o (cs++ds):=by
 intro i u a;rcases Nat.lt_or_ge i cs.length with hi | hi
 ·rw[List.getElem?_append_left hi] at a; exact h i u a
 ·rw[List.getElem?_append_right hi] at a;have:=k (i-cs.length) u a
  grind
theorem OP{w:World}{b o:Nat}:At w b o []:=fun i u a=>by grind
instance {P:Program}{T E:TypeId}{α:Type}[Rep α][hT:X1 P T E][hE:HP P E α]:HP P T (List α) where
 op:=by
  intro H enc w sp hl fuel cs x h;rcases DataW.trod_slice hT.h h with ⟨rfl,_⟩ | ⟨a,len,cap,elems,rest,n,rfl,rfl,_,_,hlc,hcm,hel,hat,_,_⟩
  ·exact⟨[],_,rfl,SlR.nil⟩
  ·have hcap:cap<=9223372036854775807:=by unfold maxLen at hcm; omega
   -- each element's cells and what they read as
   have each:∀i,i<len->∃c:List Value,w.cells? 0 (a.add (i*P.cellsOf E)) (P.cellsOf E)=some c/\∃y:α,Rep.rep 0 w.heap.size w c y:=by
    intro i hi;have hi':=hat i hi;rw[List.getElem?_eq_getElem (by omega)] at hi';cases hc:w.cells? 0 (a.add (i*P.cellsOf E)) (P.cellsOf E) with
    | none=>rw[hc] at hi'; cases hi'
    | some c =>
      rw[hc] at hi';simp only[Option.bind_some] at hi';exact⟨c,rfl,hE.op hi'⟩
   by_cases h0:len=0
   ·subst h0;exact⟨[],_,rfl,some a,cap,rfl,Nat.zero_le _,hcap,.inl rfl⟩
   ·have hs:P.cellsOf E=Rep.sz α:=by
     obtain⟨c,hc,y,hy⟩:=each 0 (by omega);have:=(World.cells?_some hc).2.1;rw[<- this]; exact Rep.len hy
    have hsp:0<P.cellsOf E:=by rw[hs]; exact Rep.pos
    obtain⟨b,o,rfl⟩:∃b o,a=⟨b,o,none⟩:=by
     obtain⟨c,hc,_⟩:=each 0 (by omega);have e0:a.add (0*P.cellsOf E)=a:=by simp[Addr.add]
     rw[e0] at hc;exact⟨a.block,a.off,(HQ hsp hc).1⟩
    have hb:b<w.heap.size:=by
     obtain⟨c,hc,_⟩:=each 0 (by omega);have e0:(Addr.mk b o none).add (0*P.cellsOf E)=⟨b,o,none⟩:=by simp[Addr.add]
     rw[e0] at hc;have h1:=HQ hsp hc;exact h1.2.2.lt (by rw[h1.2.1]; exact hsp)
    have build:∀k,k<=len->∃(cs:List Value) (xs:List α),xs.length=k/\At w b o cs/\All 0 w.heap.size w cs xs:=by
     intro k
     induction k with
     | zero=>exact fun _=>⟨[],[],rfl,OP,rfl⟩
     | succ k ih =>
       intro hk;obtain⟨cs,xs,h1,h2,h3⟩:=ih (by omega);obtain⟨c,hc,y,hy⟩:=each k (by omega);have hadd:(Addr.mk b o none).add (k*P.cellsOf E)=⟨b,o+k*P.cellsOf E,none⟩:=by
        unfold Addr.add;split
        ·rename_i h0; rw[h0]; rfl
        ·rfl
       rw[hadd] at hc;have h4:=(HQ hsp hc).2.2;refine⟨cs++c,xs++[y],by simp[h1],h2.app ?_,All.app (All.one hy) h3⟩;have:cs.length=k*P.cellsOf E:=by rw[h3.len,h1,hs]
       rw[this]; exact h4
    obtain⟨cs,xs,h1,h2,h3⟩:=build len (Nat.le_refl _);subst h1;exact⟨xs,_,rfl,some ⟨b,o,none⟩,cap,rfl,hlc,hcap,.inr ⟨b,o,cs,rfl,Nat.zero_le _,hb,h2,h3⟩⟩
theorem l0I{P:Program}{T:TypeId}{H:Type}{enc:TypeId×Value->H}{w:World}{sp:Nat->Bool}{c:Bool}{a:Nat}{cs:List Value}{x:DataW H×List MemPlace}{b:Array Field}
  (d:P.underlying T=some (.struct b)) (h:DataW.trod enc P w 0 sp c a T cs=some x) :
  cs.length=P.cellsOf T/\∀(i:Nat) (f:Field),b[i]?=some f->∃n y,DataW.trod enc P w 0 sp c n f.type ((cs.drop f.offset).take (P.cellsOf f.type))=some y:=by
 obtain⟨e,n,_,_,g,j,k⟩:=DataW.trod_struct d h
 grind
theorem e0X{H:Type}{enc:TypeId×Value->H}{P:Program}(i:laidOutB P=true){W e:World}(g:Below W.heap.size W e) :
  ∀{ts:List TypeId} {vs:List Value} {ds:List (DataW H)} {ps:List MemPlace},(ts.all fun t=>P.readableRec t&&decide (t<P.types.size))=true ->
   DataW.TrodAll enc P W 0 (fun _=>true) true ts vs ds ps->DataW.TrodAll enc P e 0 (fun b=>decide (b<W.heap.size)) true ts vs ds ps
 | [],[],[],_,_,h=>h
 | t :: ts,v :: vs,d :: ds,ps,hr,h=>by
   obtain⟨p,q,c,j,rfl⟩:=h;simp only[List.all_cons,ba,dq] at hr;have a:∀x∈p,x.block<W.heap.size:=by
    obtain⟨f,k⟩:=c;exact DataW.trod_lt f t _ _ k
   exact⟨p,q,Below.trod i hr.1.1 hr.1.2 c g a,e0X i g (by grind) j,rfl⟩
 | [],[],_ :: _,_,_,h=>h.elim
 | [],_ :: _,_,_,_,h=>h.elim
 | _ :: _,[],_,_,_,h=>h.elim
 | _ :: _,_ :: _,[],_,_,h=>h.elim
section
variable {P:Program} {n:Nat} {e:x9} {w w0:World} {Q:Exit->Act->World->Prop} {l:List Oper} {fuel:Nat} {listed:Array Bool}
 {d:Nat} {op:Op} {ty:TypeId} {pos:String} {after:Array Edge}
end
section
variable {P:Program} {n:Nat} {e:x9} {w:World} {Q:Exit->Act->World->Prop} {ops:Array Oper} {rest:List Oper}
 {d:Nat} {ty:TypeId} {pos:String} {after:Array Edge}
theorem s0j{a b:Int}(g:J9 a)(e:0<b) : -9223372036854775808<=a.tdiv b/\a.tdiv b<=9223372036854775807:=by
 unfold J9 at g;rcases Int.le_total 0 a with c | c
 ·have d:=Int.tdiv_nonneg c (Int.le_of_lt e);have h:(a.tdiv b).natAbs=a.natAbs / b.natAbs:=Int.natAbs_tdiv a b;have f:=Nat.div_le_self a.natAbs b.natAbs;omega
 ·have d:=Int.tdiv_nonneg (show 0 <= -a by omega) (Int.le_of_lt e);rw[Int.neg_tdiv] at d;have h:(a.tdiv b).natAbs=a.natAbs / b.natAbs:=Int.natAbs_tdiv a b;have f:=Nat.div_le_self a.natAbs b.natAbs;omega
theorem v0F{T T':TypeId}{x y:Operand}{a b:Int}(k:ev e x=some (.int .i64 a))(i:ev e y=some (.int .i64 b))(c:J9 a)(m:0<b) :
  B7 P n e (.binOp .quo T x y T') ty w (.int .i64 (a.tdiv b)) w:=by
 intro o l h d g f;have j:¬b=0:=by omega
 simp only[execOp,f.ev k,f.ev i];simp[eqGuard,binOp,Op.intDiv,j,IntWalk.i64_in _ (s0j c m)]
theorem v0E{T T':TypeId}{x y:Operand}{a b:Int}(i:ev e x=some (.int .i64 a))(h:ev e y=some (.int .i64 b))(k:b≠0) :
  B7 P n e (.binOp .rem T x y T') ty w (.int .i64 (a.tmod b)) w:=by
 intro l j f c g d;simp only[execOp,d.ev i,d.ev h];simp[eqGuard,binOp,Op.intDiv,k]
theorem v0G{T:TypeId}{x:Operand}{a:Int}(h:ev e x=some (.int .i64 a))(d : -9223372036854775808 <= -a /\ -a<=9223372036854775807) :
  B7 P n e (.unOp .neg T x) ty w (.int .i64 (-a)) w:=by
 intro j i c b g f;simp only[execOp,f.ev h];simp[Op.unary,Op.intArith,IntWalk.i64_in _ d]
theorem q0f{T T' E:TypeId}{x:Operand}{b o a m:Nat}{c:List Int}[k:X1 P T E][u:Tv P E][q:LU P T'](r:ev e x=some (.slice (some ⟨b,o,none⟩) m a))(j:c.length=m)(t:At w b o (c.map (Value.int .u8))) :
  B7 P n e (.convert T T' x) ty w (.string (strOfNums c)) w:=by
 intro v s f d g l;have h:=run_convert_bytes_arg (P:=P) w T E k.h u.h b o m a c j (fun i hi=>t i _ (by grind)) T' q.h;simp only[execOp,l.ev r]
 simp_all
theorem o0F(z:List Value):∀k,(L0 k z).length=k*z.length
 | 0=>by simp[L0]
 | k+1=>by rw[L0,List.length_append,o0F z k,Nat.add_mul]; omega
theorem o0G(z:List Value):∀(k j:Nat),j<k*z.length->(L0 k z)[j]?=z[j % z.length]?
 | 0,j,h=>by omega
 | k+1,j,h=>by
   have b:j<k*z.length+z.length:=by rwa [Nat.add_mul,Nat.one_mul] at h
   rw[L0];rcases Nat.lt_or_ge j z.length with a | a
   ·rw[List.getElem?_append_left a,Nat.mod_eq_of_lt a]
   ·rw[List.getElem?_append_right a,o0G z k (j-z.length) (by omega)]
    grind[Nat.mod_eq_sub_mod]
theorem i0v(z:Array Value)(k:Nat)(hz:0<z.size):madeCells z (k*z.size)=(L0 k z.toList).toArray:=by
 apply Array.ext';apply List.ext_getElem?;intro j;unfold madeCells;by_cases b:j<k*z.size
 ·have a:j % z.size<z.size:=Nat.mod_lt _ hz;rw[show(L0 k z.toList).toArray.toList=L0 k z.toList by simp,o0G z.toList k j (by omega)]
  grind
 grind[List.getElem?_eq_none,o0F]
theorem l0v{T E s y:Nat}{z:Value}{x o:Operand}{m:Nat}{zs:List Value}[G:X1 P T E][i:Info P E s y z](u:ev e x=some (.int .i64 (m:Int)))(j:ev e o=some (.int .i64 (m:Int)))(hz:z.cells.toList=zs)(Y:BG zs s=true)(Q:Nat.blt 0 s=true)
  (hm:m*y<=281474976710656) (v:m<=9223372036854775807) :
  B7 P n e (.makeSlice T x o) ty w (.slice (some ⟨w.heap.size,0,none⟩) m m) (w.alloc (.cells (L0 m zs).toArray E)):=by
 intro a X t k g q;obtain⟨c,b,H,W,V⟩:=i.get;subst hz;have l:=HM Y;have d:z.cells.size=s:=by simpa using l
 have F:(c.bytes:Int)*(m:Int)<=281474976710656:=by
  have h:((c.bytes*m:Nat):Int)<=281474976710656:=by rw[W,Nat.mul_comm]; omega
  rwa [Int.natCast_mul] at h
 have h:=run_make (P:=P) w T E c z G.h b V .i64 .i64 m m (by omega) (Int.le_refl _) F (by omega);simp only[Int.toNat_natCast] at h;have f:0<z.cells.size:=by rw[d]; simpa using Q
 have r:=i0v z.cells m f;rw[H] at h;rw[d] at r;rw[r] at h;simp only[execOp,q.ev u,q.ev j]
 simp_all
variable {w0:World} {l:List Oper} {fuel:Nat} {listed:Array Bool}
end
structure WE(g:Option Nat)(w w':World):Prop where
 os:w'.os=w.os
 tape:w'.tape=w.tape
 output:w'.output=w.output
 size:w.heap.size<=w'.heap.size
 block:∀k,k<w.heap.size->g≠some k->w'.heap[k]?=w.heap[k]?
theorem WE.of_ext{g:Option Nat}{w w':World}(h:Ext w w'):WE g w w':=⟨h.os,h.tape,h.output,h.size,fun k a _=>h.block k a⟩
theorem WE.of_wr{b:Nat}{w w':World}(h:Wr b w w'):WE (some b) w w':=⟨h.os,h.tape,h.output,by rw[h.size]; exact Nat.le_refl _,fun k _ c=>h.block k (fun a=>c (by rw[a]))⟩
theorem WE.refl{g:Option Nat}(w:World):WE g w w:=⟨rfl,rfl,rfl,Nat.le_refl _,fun _ _ _=>rfl⟩
theorem WE.trans{g:Option Nat}{a b c:World}(h:WE g a b)(k:WE g b c):WE g a c :=
 ⟨k.os.trans h.os,k.tape.trans h.tape,k.output.trans h.output,Nat.le_trans h.size k.size,fun i hi d=>(k.block i (Nat.lt_of_lt_of_le hi h.size) d).trans (h.block i hi d)⟩
theorem WE.below{g:Option Nat}{w w':World}{B:Nat}(h:WE g w w')(b:∀k,g=some k->B<=k)(a:B<=w.heap.size):Below B w w' :=
 ⟨h.os,h.tape,h.output,h.size,fun k c=>h.block k (by omega) (fun e=>by grind)⟩
theorem WE.ext{w w':World}(h:WE none w w'):Ext w w':=h.below (fun _ e=>by cases e) (Nat.le_refl _)
theorem Blk.we{g:Option Nat}{w w':World}{b:Nat}{cs:List Value}{T:TypeId}(h:Blk w b cs T)(k:WE g w w')(a:∀i,g=some i->b≠i):Blk w' b cs T:=by
 unfold Blk; rw[k.block b h.lt (fun e=>a b e rfl)]; exact h
theorem At.we{g:Option Nat}{w w':World}{b o:Nat}{cs:List Value}(h:At w b o cs)(k:WE g w w')(c:∀i,g=some i->b≠i):At w' b o cs:=h.same (fun a=>k.block b a (fun e=>c b e rfl))
theorem SlR.we{a:Type}[Rep a]{g:Option Nat}{lo hi:Nat}{w w':World}{v:Value}{xs:List a}(h:SlR lo hi w v xs)(k:WE g w w')(d:∀i,g=some i->i<lo∨hi<=i):SlR lo hi w' v xs :=
 h.same (fun i f c b=>k.block i b (fun e=>by grind))
theorem Rep.rep.we{a:Type}[Rep a]{g:Option Nat}{lo hi:Nat}{w w':World}{cs:List Value}{x:a}(h:Rep.rep lo hi w cs x)(k:WE g w w')(d:∀i,g=some i->i<lo∨hi<=i):Rep.rep lo hi w' cs x :=
 Rep.same h (fun i f c b=>k.block i b (fun e=>by grind))
theorem Rep.rep.up{a:Type}[Rep a]{lo hi:Nat}{w w':World}{cs:List Value}{x:a}(h:Rep.rep lo hi w cs x)(k:Ext w w'):Rep.rep lo hi w' cs x:=Rep.up h k
theorem Rep.rep.wide{c:Type}[Rep c]{lo hi a b:Nat}{w:World}{cs:List Value}{x:c}(h:Rep.rep lo hi w cs x)(e:a<=lo)(d:hi<=b):Rep.rep a b w cs x:=Rep.wide h e d
def Own(w:World)(E:TypeId)(s:Nat)(g:Option Nat)(v:Value)(n:Nat)(cs:List Value):Prop :=
 (g=none/\n=0/\cs=[]/\∃p,v=.slice p 0 0) ∨
 ∃b o cap cur,g=some b/\v=.slice (some ⟨b,o,none⟩) n cap/\w.heap[b]?=some (.cells cur E (0,0))/\n<=cap/\cap<=maxLen/\cur.size=o+cap*s/\(cur.toList.drop o).take (n*s)=cs
theorem Own.nil{w:World}{E s:Nat}{p:Option Addr}:Own w E s none (.slice p 0 0) 0 []:=.inl ⟨rfl,rfl,rfl,p,rfl⟩
theorem Own.len{w:World}{E:TypeId}{s:Nat}{g:Option Nat}{v:Value}{n:Nat}{cs:List Value}(h:Own w E s g v n cs):∃p c,v=.slice p n c:=by
 rcases h with ⟨_,rfl,_,p,rfl⟩ | ⟨b,o,cap,cur,_,rfl,_⟩
 ·grind
 grind
theorem Own.clen{w:World}{E:TypeId}{s:Nat}{g:Option Nat}{v:Value}{n:Nat}{cs:List Value}(h:Own w E s g v n cs):cs.length=n*s:=by
 rcases h with ⟨_,rfl,rfl,_⟩ | ⟨b,o,cap,cur,_,rfl,_,h2,_,h4,rfl⟩
 ·simp
 simp_all
theorem Own.lt{w:World}{E:TypeId}{s:Nat}{g:Option Nat}{v:Value}{n:Nat}{cs:List Value}(h:Own w E s g v n cs):∀k,g=some k->k<w.heap.size:=by
 intro k a;rcases h with ⟨rfl,_⟩ | ⟨b,o,cap,cur,rfl,rfl,h1,_⟩
 ·cases a
 grind
theorem Own.we{g':Option Nat}{w w':World}{E:TypeId}{s:Nat}{g:Option Nat}{v:Value}{n:Nat}{cs:List Value}(h:Own w E s g v n cs)(k:WE g' w w')(c:∀i,g'=some i->g≠some i):Own w' E s g v n cs:=by
 have a:=h.lt;rcases h with h | ⟨b,o,cap,cur,rfl,rfl,h1,h2⟩
 ·exact .inl h
 ·refine .inr ⟨b,o,cap,cur,rfl,rfl,?_,h2⟩;rw[k.block b (a b rfl) (fun e=>c b e rfl)]; exact h1
theorem Own.up{w w':World}{E:TypeId}{s:Nat}{g:Option Nat}{v:Value}{n:Nat}{cs:List Value}(h:Own w E s g v n cs)(k:Ext w w'):Own w' E s g v n cs:=h.we (g':=none) (WE.of_ext k) (fun _ e=>by cases e)
theorem Own.at{w:World}{E:TypeId}{s:Nat}{b n:Nat}{v:Value}{cs:List Value}(h:Own w E s (some b) v n cs):∃o cap,v=.slice (some ⟨b,o,none⟩) n cap/\At w b o cs:=by
 rcases h with ⟨h,_⟩ | ⟨b',o,cap,cur,hb,rfl,h1,h2,h3,h4,rfl⟩
 ·cases h
 ·cases hb;refine⟨o,cap,rfl,fun i u a=>?_⟩;unfold World.cell?
  grind
section
variable {P:Program} {n:Nat} {e:x9} {w:World} {Q:Exit->Act->World->Prop} {ops:Array Oper} {rest:List Oper}
 {d:Nat} {ty:TypeId} {pos:String} {after:Array Edge}
theorem s0E{T E s y:Nat}{z:Value}[X:X1 P T E][i:Info P E s y z](_:0<s)(hz:z.cells.size=s){g:Option Nat}{v:Value}{a m c F G:Nat}{p2:Option Addr}{cs d:List Value}(h:Own w E s g v a cs)
  (hp:m=0∨p2=some ⟨F,G,none⟩) (hl:d.length=m*s) (hA:At w F G d) (h1:∀u∈d,u.oneCell'=true) (aH:a+m<=9223372036854775807) (hb:(a+m)*y<=140737488355328) :
  ∃v' w' g',(Builtin.append_ #[T,T] ty #[v,.slice p2 m c]).run P w=.ok v' w'/\Own w' E s g' v' (a+m) (cs++d)/\WE g w w'/\(g'=g∨g'=some w.heap.size):=by
 obtain⟨x,l,h2,h3,h4⟩:=i.get;by_cases hm:m=0
 ·subst hm;have hn:d=[]:=List.eq_nil_of_length_eq_zero (by omega);subst hn;have Y:∃p f,v=.slice p a f/\a<=f:=by
   rcases h with ⟨_,rfl,_,p,rfl⟩ | ⟨b,o,f,cur,_,rfl,_,h2,_⟩
   ·grind
   ·grind
  obtain⟨p,f,rfl,aC⟩:=Y;refine⟨_,w,g,?_,by simpa using h,WE.refl _,.inl rfl⟩;cases p <;> cases p2 <;> simp[Builtin.append_,run_underlying X.h,sizeOf,typeInfo,l,Builtin.lenOf,Builtin.firstCells,loadCells,loadCellsFrom,storeCells,aC]
 ·rcases hp with hp | rfl
  ·exact(hm hp).elim
  have n:∀j u,d[j]?=some u->w.cell? ((⟨F,G,none⟩:Addr).add j)=some u:=fun j u hj=>by
   have t:(Addr.mk F G none).add j=⟨F,G+j,none⟩:=by unfold Addr.add; split <;> simp_all
   rw[t]; exact hA j u hj
  have aA:m*x.bytes<=140737488355328:=by
   rw[h3];exact Nat.le_trans (Nat.mul_le_mul_right y (Nat.le_add_left m a)) hb
  have V:∀q,Own (w.drew.alloc (.cells (cs.toArray++d.toArray++Builtin.zeroCells z.cells (grownCap w (a+m) q E-(a+m))) E)) E s (some w.heap.size) (.slice (some ⟨w.heap.size,0,none⟩) (a+m) (grownCap w (a+m) q E)) (a+m) (cs++d):=fun q=>by
   have aF:=grownCap_ge w (a+m) q E;have H:=h.clen;refine .inr ⟨w.heap.size,0,_,_,rfl,rfl,_root_.Go.heap_alloc_new w.drew _,aF,grownCap_le_maxLen w (a+m) q E (by grind[maxLen]),?_,?_⟩
   ·simp only[Array.size_append,List.size_toArray,size_zeroCells,hz,hl,H,<- Nat.add_mul,Nat.zero_add]
    grind
   grind[Array.toList_append,List.length_append,Nat.add_mul,List.take_left]
  have aD:∀(g:Option Nat) q,WE g w (w.drew.alloc (.cells (cs.toArray++d.toArray++Builtin.zeroCells z.cells (grownCap w (a+m) q E-(a+m))) E)):=fun g q=>⟨rfl,rfl,rfl,by simp,fun k hk _=>_root_.Go.heap_alloc_old w.drew _ hk⟩;have H:=h.clen;rcases h with ⟨rfl,rfl,rfl,p,rfl⟩ | ⟨b,o,f,cur,rfl,rfl,g1,g2,g3,g4,g5⟩
  ·have g:=V 0;have hw:=aD none 0;simp only[Nat.zero_add,List.nil_append,Array.empty_append] at g hw;cases p with
   | none =>
     have Q:=run_append_nil (P:=P) w T ty E x z X.h l h4 ⟨F,G,none⟩ m c d (by grind) n (by omega) (by omega) (by omega);exact⟨_,_,_,Q,by simpa using g,hw,.inr rfl⟩
   | some a0 =>
     have Q:=run_append_grow (P:=P) w T ty E x z X.h l h4 a0 0 0 [] (by simp) (fun j v hj=>by grind) ⟨F,G,none⟩ m c d (by grind) n (by omega) (by omega) (growslice_fits (by omega) (by grind));simp only[Nat.zero_add,Array.empty_append] at Q;exact⟨_,_,_,Q,by simpa using g,hw,.inr rfl⟩
  ·by_cases r:a+m<=f
   ·have aG:o+a*s+d.length<=cur.size:=by
     have:=Nat.mul_le_mul_right s r;rw[Nat.add_mul] at this;rw[hl,g4]; omega
    have hf:=run_firstCells_some (P:=P) w x.size m ⟨F,G,none⟩ m c d (by grind) n;have W:=run_storeCells_at P b (o+a*s) E d 0 cur w g1 (by omega) h1;simp only[Nat.add_zero] at W;have Q:(Builtin.append_ #[T,T] ty #[.slice (some ⟨b,o,none⟩) a f,.slice (some ⟨F,G,none⟩) m c]).run P w=.ok (.slice (some ⟨b,o,none⟩) (a+m) f) (w.setRow b (cur.toList.take (o+a*s)++d++cur.toList.drop (o+a*s+d.length)).toArray):=by
     rw[h2] at hf;simp[Builtin.append_,run_underlying X.h,sizeOf,typeInfo,l,Builtin.lenOf,r,hf,Addr.add_lit,W,h2]
    refine⟨_,_,some b,Q,.inr ⟨b,o,f,_,rfl,rfl,setRow_heap w b cur _ E _ g1,r,g3,?_,?_⟩,⟨rfl,rfl,rfl,by simp[World.setRow],fun k _ hk=>c0Z w b k _ (fun e=>hk (by rw[e]))⟩,.inl rfl⟩
    ·simp only[List.size_toArray,List.length_append,List.length_take,List.length_drop,Array.length_toList];omega
    ·show(List.drop o (cur.toList.take (o+a*s)++d++cur.toList.drop (o+a*s+d.length))).take ((a+m)*s)=cs++d;have e1:(cur.toList.take (o+a*s)).length=o+a*s:=by rw[List.length_take,Array.length_toList]; omega
     rw[List.append_assoc,List.drop_append_of_le_length (by omega),List.drop_take,show o+a*s-o=a*s by omega,g5,<- List.append_assoc];rw[show(a+m)*s=(cs++d).length by rw[List.length_append,H,hl,Nat.add_mul]];exact List.take_left
   ·have RR:∀j u,cs[j]?=some u->w.cell? ((⟨b,o,none⟩:Addr).add j)=some u:=fun j u hu=>by
     have t:(Addr.mk b o none).add j=⟨b,o+j,none⟩:=by unfold Addr.add; split <;> simp_all
     rw[t];obtain⟨o0,c0,e0,aB⟩:=Own.at (.inr ⟨b,o,f,cur,rfl,rfl,g1,g2,g3,g4,g5⟩:Own w E s (some b) (.slice (some ⟨b,o,none⟩) a f) a cs);cases e0;exact aB j u hu
    have Q:=run_append_grow (P:=P) w T ty E x z X.h l h4 ⟨b,o,none⟩ a f cs (by grind) RR ⟨F,G,none⟩ m c d (by grind) n (by omega) (by omega) (growslice_fits (by omega) (by grind))
    grind
theorem j0Q{x:Operand}{c:Addr}(h:ev e x=some (.pointer (some c))):B7 P n e (.nilCheck x) ty w (.pointer (some c)) w:=by
 intro a i d b g f;simp only[execOp,f.ev h];simp
end
end Go.Proofs.Sv
end
section
namespace Go.Proofs.Xv
open Go Go.RowKit Go.Proofs.Sv
inductive Ty
 | int (k:IntKind) | bool | str | sl (e:Ty) | pt (e:Ty) | pr (a b:Ty)
 deriving DecidableEq
@[reducible] def c7:Ty->Type
  | .int _=>Int
  | .bool=>Bool
  | .str=>ByteArray
  | .sl e=>List (c7 e)
  | .pt e=>c7 e
  | .pr a b=>c7 a×c7 b
def sz:Ty->Nat
 | .pr a b=>sz a+sz b
 | _=>1
theorem OQ:∀t,0<sz t
 | .int _ | .bool | .str | .sl _ | .pt _=>Nat.one_pos
 | .pr a b=>by have:=OQ a; grind[sz]
def a6:(t:Ty)->c7 t
 | .int _=>(0:Int)
 | .bool=>false
 | .str=>(⟨#[]⟩:ByteArray)
 | .sl _=>[]
 | .pt e=>a6 e
 | .pr a b=>(a6 a,a6 b)
def lo:IntKind->Int
 | .i8 => -128 | .i16 => -32768 | .i32 => -2147483648 | .i64 => -9223372036854775808 | _=>0
def hi:IntKind->Int
 | .i8=>127 | .i16=>32767 | .i32=>2147483647 | .i64=>9223372036854775807 | .u8=>255 | .u16=>65535 | .u32=>4294967295 | .u64=>18446744073709551615
def wf:(t:Ty)->c7 t->Prop
 | .int k,x=>lo k<=x/\x<=hi k
 | .bool,_=>True
 | .str,s=>s.size<=9223372036854775807
 | .sl e,xs=>xs.length<=9223372036854775807/\∀x∈xs,wf e x
 | .pt e,x=>wf e x
 | .pr a b,x=>wf a x.1/\wf b x.2
def UF(w:World)(k:Nat):Prop:=∃c T,w.heap[k]?=some (.cells c T (0,0))
theorem UF.lt{w:World}{k:Nat}(h:UF w k):k<w.heap.size:=by
 obtain⟨c,T,h⟩:=h
 grind
theorem UF.same{w w':World}{k:Nat}(h:UF w k)(e:w'.heap[k]?=w.heap[k]?):UF w' k:=by
 obtain⟨c,T,h⟩:=h;exact⟨c,T,e.trans h⟩
def UFg(w:World)(n k:Nat):Prop:=k<w.heap.size/\(n<=k->UF w k)
theorem UFg.lt{w:World}{n k:Nat}(h:UFg w n k):k<w.heap.size:=h.1
theorem UFg.same{w w':World}{n k:Nat}(h:UFg w n k)(a:w.heap.size<=w'.heap.size)(e:w'.heap[k]?=w.heap[k]?):UFg w' n k:=⟨Nat.lt_of_lt_of_le h.1 a,fun b=>(h.2 b).same e⟩
theorem UF.g{w:World}{n k:Nat}(h:UF w k):UFg w n k:=⟨h.lt,fun _=>h⟩
theorem Dx{w:World}{E s:Nat}{b:Nat}{v:Value}{n:Nat}{cs:List Value}(h:Own w E s (some b) v n cs):UF w b:=by
 rcases h with ⟨h,_⟩ | ⟨b',o,cap,cur,hb,_,h,_⟩
 ·cases h
 ·cases hb; exact⟨_,_,h⟩
theorem Tw{w:World}{b:Nat}{cs:List Value}{T:TypeId}(h:Blk w b cs T):UF w b:=⟨_,_,h⟩
def AllR{α:Type}(R:List Value->α->Prop):List Value->List α->Prop
 | cs,[]=>cs=[]
 | cs,x :: r=>∃c d,cs=c++d/\R c x/\AllR R d r
def RT(K:Nat->Prop)(w:World):(t:Ty)->List Value->c7 t->Prop
 | .int k,cs,x=>cs=[.int k x]/\(lo k<=x/\x<=hi k)
 | .bool,cs,x=>cs=[.bool x]
 | .str,cs,s=>cs=[.string s]/\s.size<=9223372036854775807
 | .sl e,cs,xs=>∃p cap,cs=[.slice p xs.length cap]/\xs.length<=cap/\cap<=9223372036854775807 /\
    (xs=[]∨∃b o ds,p=some ⟨b,o,none⟩/\K b/\At w b o ds/\AllR (RT K w e) ds xs)
 | .pt e,cs,x=>∃b o ds,cs=[.pointer (some ⟨b,o,none⟩)]/\K b/\At w b o ds/\RT K w e ds x
 | .pr a b,cs,x=>∃c d,cs=c++d/\RT K w a c x.1/\RT K w b d x.2
theorem AllR.mapR{a:Type}{R R':List Value->a->Prop}(h:∀c x,R c x->R' c x):∀{cs:List Value} {xs:List a},AllR R cs xs->AllR R' cs xs
 | _,[],k=>k
 | _,_ :: _,⟨c,d,e,k1,k2⟩=>⟨c,d,e,h _ _ k1,AllR.mapR h k2⟩
theorem AllR.mem{a:Type}{R:List Value->a->Prop}:∀{cs:List Value} {xs:List a},AllR R cs xs->∀x∈xs,∃c,R c x
 | _,[],_,x,hx=>by cases hx
 | _,_ :: _,⟨c,d,e,k1,k2⟩,x,hx=>by
   rcases List.mem_cons.1 hx with rfl | hx
   ·grind
   ·exact AllR.mem k2 x hx
theorem AllR.len{a:Type}{R:List Value->a->Prop}{s:Nat}(b:∀c x,R c x->c.length=s):∀{cs:List Value} {xs:List a},AllR R cs xs->cs.length=xs.length*s
 | cs,[],h=>by rw[show cs=[] from h]; simp
 | cs,x :: r,⟨c,d,e,k1,k2⟩=>by
   subst e;rw[List.length_append,b _ _ k1,AllR.len b k2,List.length_cons,Nat.add_mul]; omega
theorem AllR.app{a:Type}{R:List Value->a->Prop}{ds:List Value}{b:List a}(k:AllR R ds b):∀{cs:List Value} {xs:List a},AllR R cs xs->AllR R (cs++ds) (xs++b)
 | cs,[],h=>by rw[show cs=[] from h]; exact k
 | _,_ :: _,⟨c,d,e,h1,h2⟩=>⟨c,d++ds,by rw[e]; simp,h1,AllR.app k h2⟩
theorem AllR.one{a:Type}{R:List Value->a->Prop}{c:List Value}{x:a}(h:R c x):AllR R c [x]:=⟨c,[],by simp,h,rfl⟩
theorem AllR.get{a:Type}{R:List Value->a->Prop}{s:Nat}(b:∀c x,R c x->c.length=s):∀{cs:List Value} {xs:List a} {i:Nat} (_:AllR R cs xs) (hi:i<xs.length),
  ∃pre c post,cs=pre++c++post/\pre.length=i*s/\R c xs[i]
 | _,x :: r,0,⟨c,d,e,h1,h2⟩,_=>⟨[],c,d,by simp[e],by simp,h1⟩
 | _,x :: r,i+1,⟨c,d,e,h1,h2⟩,hi=>by
   obtain⟨pre,h,post,f,j,g⟩:=AllR.get b h2 (i:=i) (by grind)
   grind
theorem AllR.set{b:Type}{R:List Value->b->Prop}{s:Nat}(g:∀c x,R c x->c.length=s){a:List Value}{y:b}(f:R a y):∀{cs:List Value} {xs:List b} {i:Nat} (_:AllR R cs xs) (_:i<xs.length),
  AllR R (cs.take (i*s)++a++cs.drop ((i+1)*s)) (xs.set i y)
 | _,x :: r,0,⟨c,d,e,h1,h2⟩,_=>by
   subst e;refine⟨a,d,?_,f,h2⟩
   grind
 | _,x :: r,i+1,⟨c,d,e,h1,h2⟩,hi=>by
   subst e;have h:=g _ _ h1;refine⟨c,d.take (i*s)++a++d.drop ((i+1)*s),?_,h1,AllR.set g f h2 (by simpa using hi)⟩;have j:(i+1)*s=c.length+i*s:=by rw[h,Nat.add_mul]; omega
   have k:(i+1+1)*s=c.length+(i+1)*s:=by rw[h,Nat.add_mul (i+1)]; omega
   rw[k,List.drop_length_add_append,j,List.take_length_add_append];simp
theorem RT.len{K:Nat->Prop}{w:World}:∀{t:Ty} {cs:List Value} {x:c7 t},RT K w t cs x->cs.length=sz t
 | .int _,_,_,h=>by rw[h.1]; rfl
 | .bool,_,_,h=>by rw[show _=_ from h]; rfl
 | .str,_,_,h=>by rw[h.1]; rfl
 | .sl _,_,_,⟨_,_,h,_⟩=>by rw[h]; rfl
 | .pt _,_,_,⟨_,_,_,h,_⟩=>by rw[h]; rfl
 | .pr a b,_,_,⟨c,d,h,h1,h2⟩=>by rw[h,List.length_append,RT.len h1,RT.len h2]; rfl
theorem RT.same{K K':Nat->Prop}{w w':World}(g:∀k,K k->k<w.heap.size->K' k/\w'.heap[k]?=w.heap[k]?):∀{t:Ty} {cs:List Value} {x:c7 t},RT K w t cs x->RT K' w' t cs x
 | .int _,_,_,h=>h
 | .bool,_,_,h=>h
 | .str,_,_,h=>h
 | .sl e,_,xs,⟨p,cap,h1,h2,h3,i⟩=>by
   refine⟨p,cap,h1,h2,h3,?_⟩;rcases i with i | ⟨b,o,ds,hp,hb,hat,hall⟩
   ·grind
   ·rcases Nat.eq_zero_or_pos ds.length with hz | hz
    ·left;have:=hall.len (fun c x h=>RT.len h)
     grind[Nat.mul_eq_zero,List.eq_nil_of_length_eq_zero,OQ]
    ·have f:=hat.lt hz;exact .inr ⟨b,o,ds,hp,(g b hb f).1,hat.same (fun _=>(g b hb f).2),hall.mapR (fun c x h=>RT.same g h)⟩
 | .pt e,_,x,⟨b,o,ds,h1,hb,hat,h2⟩=>by
   have hz:0<ds.length:=by rw[RT.len h2]; exact OQ e
   have f:=hat.lt hz;exact⟨b,o,ds,h1,(g b hb f).1,hat.same (fun _=>(g b hb f).2),RT.same g h2⟩
 | .pr a b,_,x,⟨c,d,h,h1,h2⟩=>⟨c,d,h,RT.same g h1,RT.same g h2⟩
def x7:Ty->Bool
 | .int _ | .bool | .str=>true
 | .sl _ | .pt _=>false
 | .pr a b=>x7 a&&x7 b
theorem RT.free{K K':Nat->Prop}{w w':World}:∀{t:Ty} {cs:List Value} {x:c7 t},x7 t=true->RT K w t cs x->RT K' w' t cs x
 | .int _,_,_,_,h=>h
 | .bool,_,_,_,h=>h
 | .str,_,_,_,h=>h
 | .pr a b,_,x,hk,⟨c,d,h,h1,h2⟩=>by
   simp only[x7,ba] at hk;exact⟨c,d,h,RT.free hk.1 h1,RT.free hk.2 h2⟩
theorem RT.up{K K':Nat->Prop}{w:World}{t:Ty}{cs:List Value}{x:c7 t}(h:RT K w t cs x)(a:∀k,K k->K' k):RT K' w t cs x:=RT.same (fun k b _=>⟨a k b,rfl⟩) h
theorem RT.wf{K:Nat->Prop}{w:World}:∀{t:Ty} {cs:List Value} {x:c7 t},RT K w t cs x->Xv.wf t x
 | .int _,_,_,h=>h.2
 | .bool,_,_,_=>trivial
 | .str,_,_,h=>h.2
 | .sl e,_,xs,⟨p,cap,h1,h2,h3,h4⟩=>by
   refine⟨by omega,fun x f=>?_⟩;rcases h4 with rfl | ⟨b,o,ds,hp,hb,hat,hall⟩
   ·cases f
   ·obtain⟨c,g⟩:=hall.mem x f;exact RT.wf g
 | .pt e,_,x,⟨b,o,ds,h1,hb,hat,h2⟩=>RT.wf (t:=e) h2
 | .pr a b,_,x,⟨c,d,h,h1,h2⟩=>⟨RT.wf h1,RT.wf h2⟩
theorem RT.one{K:Nat->Prop}{w:World}:∀{t:Ty} {cs:List Value} {x:c7 t},RT K w t cs x->∀u∈cs,u.oneCell'=true
 | .int _,_,_,h,u,e=>by rw[h.1] at e; cases List.mem_singleton.1 e; rfl
 | .bool,_,_,h,u,e=>by rw[show _=_ from h] at e; cases List.mem_singleton.1 e; rfl
 | .str,_,_,h,u,e=>by rw[h.1] at e; cases List.mem_singleton.1 e; rfl
 | .sl _,_,_,⟨_,_,h,_⟩,u,e=>by rw[h] at e; cases List.mem_singleton.1 e; rfl
 | .pt _,_,_,⟨_,_,_,h,_⟩,u,e=>by rw[h] at e; cases List.mem_singleton.1 e; rfl
 | .pr a b,_,_,⟨c,d,h,h1,h2⟩,u,e=>by
   rw[h] at e;rcases List.mem_append.1 e with e | e
   ·exact RT.one h1 u e
   ·exact RT.one h2 u e
theorem RT.get{K:Nat->Prop}{w:World}{e:Ty}{p:Option Addr}{n a:Nat}{xs:List (c7 e)}(h:RT K w (.sl e) [.slice p n a] xs){i:Nat}(hi:i<xs.length) :
  n=xs.length/\∃b o c,p=some ⟨b,o,none⟩/\K b/\At w b (o+i*sz e) c/\RT K w e c xs[i]:=by
 obtain⟨r,g,j,q,s,f⟩:=h;simp only[List.cons.injEq,Value.slice.injEq,and_true] at j;obtain⟨rfl,rfl,rfl⟩:=j;refine⟨rfl,?_⟩;rcases f with f | ⟨b,o,ds,hp,hb,hat,hall⟩
 ·grind
 ·obtain⟨l,c,d,rfl,k,m⟩:=hall.get (fun c x h=>RT.len h) hi;refine⟨b,o,c,hp,hb,?_,m⟩;rw[<- k]; exact hat.mid
inductive AV
 | v (x:Value)
 | d (fr:Bool) (t:Ty) (x:c7 t)
 | agg (xs:List AV)
 | tup (xs:List AV)
 | ptr (id off:Nat)
 | pel (id ver k s off:Nat)
 | os (id ver:Nat)
 | fn (f:FuncId) (caps:List AV)
 | ow (T:TypeId) (fr:Bool) (t:Ty) (xs:List (c7 t))
 | gel (id k:Nat)
 | og (id:Nat)
 | ob (T:TypeId) (cs:List AV)
inductive Ob
 | box (T:TypeId) (cs:List AV)
 | arr (T:TypeId) (fr:Bool) (t:Ty) (xs:List (c7 t)) (ver:Nat)
 | grd (T Te:TypeId) (fr:Bool) (t:Ty) (xs:List (List (c7 t))) (hole:Option Nat)
def a8{β:Type}:List (Nat×β)->Nat->Option β
 | [],_=>none
 | (d,v) :: e,t=>bif Nat.beq d t then some v else a8 e t
theorem lK{a:Type}(d:Nat)(v:a)(e:List (Nat×a))(t:Nat):a8 ((d,v) :: e) t=if d=t then some v else a8 e t:=by
 show(bif Nat.beq d t then some v else a8 e t)=_
 simp_all
structure Gh where
 ρ:Nat->Value
 γ:Nat->Option Nat
 K:Nat->Prop
 w:World
 o:List (Nat×Ob)
 B:Nat
 δ:Nat->Nat->Prop
def rg(G:Gh)(fr:Bool)(k:Nat):Prop:=G.K k/\(fr=true->G.B<=k)
mutual
def AVR(G:Gh):AV->Value->Prop
 | .v x,u=>u=x
 | .d fr t x,u=>RT (rg G fr) G.w t [u] x
 | .agg xs,u=>∃us:List Value,u=.agg us.toArray/\AVRs G xs us
 | .tup xs,u=>∃us:List Value,u=.tuple us.toArray/\AVRs G xs us
 | .ptr id off,u=>(∃T cs,a8 G.o id=some (.box T cs))/\∃b,G.ρ id=.pointer (some ⟨b,0,none⟩)/\u=.pointer (some ⟨b,off,none⟩)
 | .pel id ver k s off,u=>u.oneCell'=true/\∃T fr t xs ver',a8 G.o id=some (.arr T fr t xs ver')/\ver<=ver'/\(ver=ver'->∃b o n c,G.ρ id=.slice (some ⟨b,o,none⟩) n c/\u=.pointer (some ⟨b,o+(k*s+off),none⟩))
 | .os id ver,u=>u.oneCell'=true/\∃T fr t xs ver',a8 G.o id=some (.arr T fr t xs ver')/\ver<=ver'/\(ver=ver'->u=G.ρ id)
 | .fn f caps,u=>∃us:List Value,u=.func (.func f) #[] us.toArray/\AVRs G caps us
 | .ow ..,_=>False
 | .ob ..,_=>False
 | .gel id k,u=>(∃T Te fr t xs hole,a8 G.o id=some (.grd T Te fr t xs hole))/\∃b o n c,G.ρ id=.slice (some ⟨b,o,none⟩) n c/\u=.pointer (some ⟨b,o+k,none⟩)
 | .og id,u=>u.oneCell'=true/\(∃T Te fr t xs hole,a8 G.o id=some (.grd T Te fr t xs hole))/\u=G.ρ id
def AVRs(G:Gh):List AV->List Value->Prop
 | [],us=>us=[]
 | a :: r,us=>∃u us',us=u :: us'/\AVR G a u/\AVRs G r us'
end
theorem AVRs.len{G:Gh}:∀{as:List AV} {us:List Value},AVRs G as us->us.length=as.length
 | [],us,h=>by rw[show us=[] from h]; rfl
 | a :: r,us,⟨u,us',e,_,h⟩=>by rw[e]; simp[AVRs.len h]
theorem AVRs.app{G:Gh}{b:List AV}{vs:List Value}(k:AVRs G b vs):∀{as:List AV} {us:List Value},AVRs G as us->AVRs G (as++b) (us++vs)
 | [],us,h=>by rw[show us=[] from h]; exact k
 | a :: r,us,⟨u,us',e,h1,h2⟩=>⟨u,us'++vs,by rw[e]; rfl,h1,AVRs.app k h2⟩
theorem AVRs.split{G:Gh}{b:List AV}:∀{as:List AV} {us:List Value},AVRs G (as++b) us->∃us1 us2,us=us1++us2/\AVRs G as us1/\AVRs G b us2
 | [],us,h=>⟨[],us,rfl,rfl,h⟩
 | a :: r,us,⟨u,us',e,h1,h2⟩=>by
   obtain⟨c,d,i,g,f⟩:=AVRs.split h2;exact⟨u :: c,d,by grind,⟨u,c,rfl,h1,g⟩,f⟩
theorem AVRs.take{G:Gh}{a:List AV}{us:List Value}(h:AVRs G a us)(k:Nat):AVRs G (a.take k) (us.take k)/\AVRs G (a.drop k) (us.drop k):=by
 rw[<- List.take_append_drop k a] at h;obtain⟨f,g,e,d,c⟩:=h.split;have i:=d.len;have b:=c.len
 grind[List.length_take,List.drop_eq_nil_of_le,List.take_of_length_le]
theorem AVRs.get{G:Gh}:∀{as:List AV} {us:List Value} {i:Nat} {a:AV},AVRs G as us->as[i]?=some a->∃u,us[i]?=some u/\AVR G a u
 | a :: r,us,0,x,⟨u,us',e,h1,h2⟩,hx=>by
   grind
 | a :: r,us,i+1,x,⟨u,us',e,h1,h2⟩,hx=>by
   obtain⟨v,b,c⟩:=AVRs.get h2 (i:=i) (by simpa using hx)
   grind
def OR:AV->Bool
 | .v x=>x.oneCell'
 | .d _ t _=>match t with | .pr _ _=>false | _=>true
 | .agg _ | .tup _ | .ow .. | .ob ..=>false
 | _=>true
theorem AVR.one{G:Gh}:∀{a:AV} {u:Value},AVR G a u->OR a=true->u.oneCell'=true
 | .v x,u,h,ho=>by rw[show u=x from h]; exact ho
 | .d _ t x,u,h,_=>RT.one h u (List.mem_singleton.2 rfl)
 | .ptr _ _,u,⟨_,_,_,h⟩,_=>by rw[h]; rfl
 | .pel ..,u,h,_=>h.1
 | .os ..,u,h,_=>h.1
 | .fn ..,u,⟨_,h,_⟩,_=>by rw[h]; rfl
 | .gel ..,u,⟨_,_,_,_,_,_,h⟩,_=>by rw[h]; rfl
 | .og ..,u,h,_=>h.1
 | .ow ..,_,h,_=>h.elim
 | .ob ..,_,h,_=>h.elim
structure Rows(G:Gh)(id:Nat)(Te:TypeId)(fr:Bool)(t:Ty)(xs:List (List (c7 t)))(hole:Option Nat)(vs:List Value)(bs:Nat->Option Nat):Prop where
 len:vs.length=xs.length
 blk:∀b,G.δ id b↔∃k,k<xs.length/\hole≠some k/\bs k=some b
 inj:∀k k' b,k<xs.length->k'<xs.length->hole≠some k->hole≠some k'->bs k=some b->bs k'=some b->k=k'
 row:∀k,k<xs.length->hole≠some k->∃cs,Own G.w Te (sz t) (bs k) (vs.getD k (.bool false)) (xs.getD k []).length cs/\AllR (RT (rg G fr) G.w t) cs (xs.getD k [])/\∀b,bs k=some b->G.B<=b
 one:∀v∈vs,v.oneCell'=true
def ObR(G:Gh)(id:Nat):Ob->Prop
 | .box T cs=>∃b us,G.γ id=some b/\G.ρ id=.pointer (some ⟨b,0,none⟩)/\Blk G.w b us T/\AVRs G cs us
 | .arr T fr t xs _=>∃cs,Own G.w T (sz t) (G.γ id) (G.ρ id) xs.length cs/\AllR (RT (rg G fr) G.w t) cs xs/\∀b,G.γ id=some b->G.B<=b
 | .grd T Te fr t xs hole=>∃vs bs,Own G.w T 1 (G.γ id) (G.ρ id) xs.length vs/\Rows G id Te fr t xs hole vs bs/\∀b,G.γ id=some b->G.B<=b
def C5:Option Ob->Bool
 | some (.grd ..)=>true
 | _=>false
structure Cx where
 P:Program
 n:Nat
 w0:World
 io:Nat->Prop
 K0:Nat->Prop
 pin:Nat->Value->Prop
 base:Nat
structure Sat(X:Cx)(G:Gh):Prop where
 base:G.B=X.base/\X.base<=X.w0.heap.size
 os:G.w.os=X.w0.os
 tape:G.w.tape=X.w0.tape
 output:G.w.output=X.w0.output
 size:X.w0.heap.size<=G.w.heap.size
 block:∀k,k<X.w0.heap.size->¬X.io k->G.w.heap[k]?=X.w0.heap[k]?
 obs:∀id o,a8 G.o id=some o->ObR G id o
 inj:∀id id' o o' b,a8 G.o id=some o->a8 G.o id'=some o'->G.γ id=some b->G.γ id'=some b->id=id'
 imm:∀id o b,a8 G.o id=some o->G.γ id=some b->¬G.K b
 own:∀id o b,a8 G.o id=some o->G.γ id=some b->X.w0.heap.size<=b∨X.io b
 klt:∀k,G.K k->UFg G.w X.w0.heap.size k
 kfrom:∀k,G.K k->X.K0 k∨X.base<=k
 sep:∀id b,G.δ id b->C5 (a8 G.o id)=true->(X.w0.heap.size<=b∨X.io b)/\¬G.K b/\(∀i o,a8 G.o i=some o->G.γ i≠some b)/\∀i,G.δ i b->C5 (a8 G.o i)=true->id=i
 pin:∀i v,X.pin i v->AVR G (.ptr (500000+i) 0) v
theorem Sat.le{X:Cx}{G:Gh}(S:Sat X G):G.B<=X.w0.heap.size:=by
 rw[S.base.1]; exact S.base.2
structure GLe(G G':Gh):Prop where
 hB:G'.B=G.B
 hK:∀k,G.K k->k<G.w.heap.size->G'.K k/\G'.w.heap[k]?=G.w.heap[k]?
 hbox:∀id T cs,a8 G.o id=some (.box T cs)->G'.ρ id=G.ρ id/\∃T' cs',a8 G'.o id=some (.box T' cs')
 hgrd:∀id T Te fr t xs hole,a8 G.o id=some (.grd T Te fr t xs hole)->G'.ρ id=G.ρ id/\∃T' Te' fr' t' xs' hole',a8 G'.o id=some (.grd T' Te' fr' t' xs' hole')
 harr:∀id T fr t xs ver,a8 G.o id=some (.arr T fr t xs ver)->∃T' fr' t' xs' ver',a8 G'.o id=some (.arr T' fr' t' xs' ver')/\ver<=ver'/\(ver=ver'->G'.ρ id=G.ρ id)
theorem GLe.hR{G a:Gh}(h:GLe G a){fr:Bool}:∀k,rg G fr k->k<G.w.heap.size->rg a fr k/\a.w.heap[k]?=G.w.heap[k]?:=fun k ⟨c,d⟩ b=>⟨⟨(h.hK k c b).1,fun e=>by rw[h.hB]; exact d e⟩,(h.hK k c b).2⟩
mutual
theorem AVR.mono{G r:Gh}(h:GLe G r):∀{a:AV} {u:Value},AVR G a u->AVR r a u
 | .v _,_,k=>k
 | .d _ _ _,_,k=>RT.same h.hR k
 | .agg _,_,⟨us,e,k⟩=>⟨us,e,AVRs.mono h k⟩
 | .tup _,_,⟨us,e,k⟩=>⟨us,e,AVRs.mono h k⟩
 | .ptr id off,u,⟨⟨T,cs,h1⟩,b,h2,h3⟩=>by
   obtain⟨e,j⟩:=h.hbox id T cs h1;exact⟨j,b,by grind,h3⟩
 | .pel id ver k s off,u,⟨h0,T,fr,t,xs,ver',h1,h2,h3⟩=>by
   obtain⟨q,i,l,g,f,m,x,w⟩:=h.harr id T fr t xs ver' h1;refine⟨h0,q,i,l,g,f,m,by omega,fun e=>?_⟩
   grind
 | .os id ver,u,⟨h0,T,fr,t,xs,ver',h1,h2,h3⟩=>by
   obtain⟨q,i,l,g,f,m,x,w⟩:=h.harr id T fr t xs ver' h1;exact⟨h0,q,i,l,g,f,m,by omega,fun e=>by grind⟩
 | .fn _ _,_,⟨us,e,k⟩=>⟨us,e,AVRs.mono h k⟩
 | .ow ..,_,k=>k
 | .ob ..,_,k=>k
 | .gel id k,u,⟨⟨T,Te,fr,t,xs,hole,h1⟩,b,o,n,c,h2,h3⟩=>by
   obtain⟨e,j⟩:=h.hgrd id T Te fr t xs hole h1;exact⟨j,b,o,n,c,by grind,h3⟩
 | .og id,u,⟨h0,⟨T,Te,fr,t,xs,hole,h1⟩,h2⟩=>by
   obtain⟨e,j⟩:=h.hgrd id T Te fr t xs hole h1;exact⟨h0,j,by grind⟩
theorem AVRs.mono{G a:Gh}(h:GLe G a):∀{as:List AV} {us:List Value},AVRs G as us->AVRs a as us
 | [],_,k=>k
 | _ :: _,_,⟨u,us',e,k1,k2⟩=>⟨u,us',e,AVR.mono h k1,AVRs.mono h k2⟩
end
theorem GLe.refl(G:Gh):GLe G G:=⟨rfl,fun _ h _=>⟨h,rfl⟩,fun _ _ _ h=>⟨rfl,_,_,h⟩,fun _ _ _ _ _ _ _ h=>⟨rfl,_,_,_,_,_,_,h⟩,fun _ _ _ _ _ _ h=>⟨_,_,_,_,_,h,Nat.le_refl _,fun _=>rfl⟩⟩
theorem GLe.trans{A B C:Gh}(h:GLe A B)(k:GLe B C)(P:A.w.heap.size<=B.w.heap.size):GLe A C:=by
 refine⟨k.hB.trans h.hB,fun i hi E=>?_,fun i T y hi=>?_,fun i T v s t r d hi=>?_,fun i T s t r q hi=>?_⟩
 ·obtain⟨f,e⟩:=h.hK i hi E;obtain⟨o,n⟩:=k.hK i f (by omega)
  grind
 ·obtain⟨f,g,m,e⟩:=h.hbox i T y hi;obtain⟨o,n⟩:=k.hbox i g m e
  grind
 ·obtain⟨f,g,Te',a,l,c,b,e⟩:=h.hgrd i T v s t r d hi;obtain⟨o,n⟩:=k.hgrd i g Te' a l c b e
  grind
 ·obtain⟨g,a,l,c,j,f,e,Q⟩:=h.harr i T s t r q hi;obtain⟨F,z,H,x,u,o,n,G⟩:=k.harr i g a l c j f
  grind
theorem Rows.up{G f:Gh}{id:Nat}{Te:TypeId}{fr:Bool}{t:Ty}{xs:List (List (c7 t))}{a:Option Nat}{vs:List Value}{l:Nat->Option Nat}(h:Rows G id Te fr t xs a vs l)(d:GLe G f)(g:∀b,f.δ id b↔G.δ id b){go:Option Nat}(s:WE go G.w f.w)(i:∀b,G.δ id b->go≠some b):Rows f id Te fr t xs a vs l:=by
 refine⟨h.len,fun b=>(g b).trans (h.blk b),h.inj,fun k m n=>?_,h.one⟩;obtain⟨v,y,q,u⟩:=h.row k m n;exact⟨v,y.we s (fun j o e=>i j ((h.blk j).2 ⟨k,m,n,e⟩) o),q.mapR (fun c x r=>RT.same (w:=G.w) d.hR r),by rw[d.hB]; exact u⟩
theorem LX{o:Option Ob}(h:C5 o=true):∃T Te fr t xs hole,o=some (.grd T Te fr t xs hole):=by
 unfold C5 at h
 grind
theorem Sat.dlt{X:Cx}{G:Gh}(S:Sat X G){id b:Nat}(h:G.δ id b)(g:C5 (a8 G.o id)=true):b<G.w.heap.size:=by
 obtain⟨T,n,r,t,l,a,d⟩:=LX g;obtain⟨m,q,_,c,_⟩:=S.obs id _ d;obtain⟨k,e,f,i⟩:=(c.blk b).1 h;obtain⟨s,j,_⟩:=c.row k e f;exact j.lt b i
theorem Sat.duf{X:Cx}{G:Gh}(S:Sat X G){id b:Nat}(h:G.δ id b)(g:C5 (a8 G.o id)=true):UF G.w b:=by
 obtain⟨T,l,n,t,i,a,d⟩:=LX g;obtain⟨j,m,_,c,_⟩:=S.obs id _ d;obtain⟨k,e,f,q⟩:=(c.blk b).1 h;obtain⟨r,s,_⟩:=c.row k e f
 grind[Dx]
theorem Sat.ext{X:Cx}{G:Gh}(S:Sat X G){w':World}(h:Ext G.w w'):Sat X { G with w:=w' }/\GLe G { G with w:=w' }:=by
 have a:GLe G { G with w:=w' }:=⟨rfl,fun k d F=>⟨d,h.block k F⟩,fun _ _ _ h=>⟨rfl,_,_,h⟩,fun _ _ _ _ _ _ _ h=>⟨rfl,_,_,_,_,_,_,h⟩,fun _ _ _ _ _ _ h=>⟨_,_,_,_,_,h,Nat.le_refl _,fun _=>rfl⟩⟩;refine⟨⟨S.base,h.os.trans S.os,h.tape.trans S.tape,h.output.trans S.output,Nat.le_trans S.size h.size,fun k d hi=>(h.block k (Nat.lt_of_lt_of_le d S.size)).trans (S.block k d hi),?_,S.inj,S.imm,S.own,fun k d=>(S.klt k d).same h.size (a.hK k d (S.klt k d).lt).2,S.kfrom,S.sep,fun i v h=>(S.pin i v h).mono a⟩,a⟩;intro id o r;have:=S.obs id o r;cases o with
 | box T m =>
   obtain⟨b,n,j,f,g,E⟩:=this;exact⟨b,n,j,f,g.ext h,AVRs.mono a E⟩
 | arr T y t q H =>
   obtain⟨m,j,f,g⟩:=this;exact⟨m,j.up h,f.mapR (fun c x z=>RT.same (w:=G.w) a.hR z),g⟩
 | grd T P y t q l =>
   obtain⟨s,u,j,f,g⟩:=this;exact⟨s,u,j.up h,f.up a (fun _=>Iff.rfl) (go:=none) (WE.of_ext h) (fun _ _ e=>by cases e),g⟩
def Gh.put(G:Gh)(id:Nat)(ob:Ob)(r:Value)(g:Option Nat)(w':World):Gh :=
 ⟨fun i=>if i=id then r else G.ρ i,fun i=>if i=id then g else G.γ i,G.K,w',(id,ob) :: G.o,G.B,fun i b=>i≠id/\G.δ i b⟩
def u0w(G:Gh)(id:Nat)(ob:Ob)(r:Value):Prop :=
 (∀T cs,a8 G.o id=some (.box T cs)->r=G.ρ id/\∃T' cs',ob=.box T' cs') /\
 (∀T fr t xs ver,a8 G.o id=some (.arr T fr t xs ver)->∃T' fr' t' xs' ver',ob=.arr T' fr' t' xs' ver'/\ver<=ver'/\(ver=ver'->r=G.ρ id))/\C5 (a8 G.o id)=false
theorem Sat.put{X:Cx}{G:Gh}(S:Sat X G){id:Nat}{ob:Ob}{r:Value}{g:Option Nat}{w':World}{go:Option Nat}
  (V:u0w G id ob r) (y:∀b,go=some b->(∃o,a8 G.o id=some o)/\G.γ id=some b) (f:WE go G.w w') (Q:∀b,g=some b->go=some b∨G.w.heap.size<=b)
  (aJ:GLe G (G.put id ob r g w')->ObR (G.put id ob r g w') id ob):Sat X (G.put id ob r g w')/\GLe G (G.put id ob r g w'):=by
 have n:∀i,a8 (G.put id ob r g w').o i=if id=i then some ob else a8 G.o i:=fun i=>lK _ _ _ _
 have aC:∀k,G.K k->go≠some k:=fun k q e=>by
  obtain⟨⟨o,d⟩,m⟩:=y k e;exact S.imm id o k d m q
 have s:GLe G (G.put id ob r g w'):=by
  refine⟨rfl,fun k q hl=>⟨q,f.block k hl (aC k q)⟩,fun i T cs hi=>?_,fun i T Te fr t xs E hi=>?_,fun i T fr t xs Y hi=>?_⟩
  ·rw[n];by_cases e:id=i
   ·subst e;obtain⟨u,T',aI,P⟩:=V.1 T cs hi
    grind[Gh.put]
   grind[Gh.put]
  ·rw[n];by_cases e:id=i
   ·subst e;have:=V.2.2;rw[hi] at this;cases this
   grind[Gh.put]
  ·rw[n];by_cases e:id=i
   ·subst e;obtain⟨T',aK,t',aL,aG,u,P,h3⟩:=V.2.1 T fr t xs Y hi;simp only[Gh.put,if_true]
    grind
   ·simp only[Gh.put,if_neg e,if_neg (Ne.symm e)]
    grind
 have H:∀i o b,i≠id->a8 G.o i=some o->G.γ i=some b->go≠some b:=fun i o b hi d a e=>by
  obtain⟨⟨o',l⟩,m⟩:=y b e;exact hi (S.inj i id o o' b d l a m)
 have aN:∀i o b,a8 G.o i=some o->G.γ i=some b->b<G.w.heap.size:=fun i o b d a=>by
  have:=S.obs i o d;cases o with
  | box T cs=>obtain⟨b',us,u,P,h3,h4⟩:=this; rw[a] at u; cases u; exact h3.lt
  | arr T fr t xs Y=>obtain⟨cs,u,P,_⟩:=this; exact u.lt b a
  | grd T Te fr t xs E=>obtain⟨vs,bs,u,_⟩:=this; exact u.lt b a
 have aD:∀b,g=some b->∀i o,i≠id->a8 G.o i=some o->G.γ i≠some b:=fun b a i o hi d e=>by
  grind
 have aM:=Q;refine⟨⟨S.base,f.os.trans S.os,f.tape.trans S.tape,f.output.trans S.output,Nat.le_trans S.size f.size,fun k q hi=>?_,?_,?_,?_,?_,fun k q=>(S.klt k q).same f.size (s.hK k q (S.klt k q).lt).2,S.kfrom,?_,fun i v h=>(S.pin i v h).mono s⟩,s⟩
 ·refine(f.block k (Nat.lt_of_lt_of_le q S.size) (fun e=>?_)).trans (S.block k q hi);obtain⟨⟨o,d⟩,m⟩:=y k e;rcases S.own id o k d m with h | h
  ·omega
  grind
 ·intro i o d;rw[n] at d;by_cases e:id=i
  ·grind
  ·rw[if_neg e] at d;have:=S.obs i o d;cases o with
   | box T cs =>
     obtain⟨b,us,u,P,h3,h4⟩:=this;refine⟨b,us,?_,?_,?_,AVRs.mono s h4⟩
     ·grind[Gh.put]
     ·grind[Gh.put]
     ·exact h3.we f (fun j F z=>by grind)
   | arr T fr t xs Y =>
     obtain⟨cs,u,P,h3⟩:=this;refine⟨cs,?_,?_,by grind[Gh.put]⟩
     ·simp only[Gh.put,if_neg (Ne.symm e)];exact u.we f (fun j F z=>H i _ j (Ne.symm e) d z F)
     ·exact P.mapR (fun c x hr=>RT.same (w:=G.w) s.hR hr)
   | grd T Te fr t xs E =>
     obtain⟨vs,bs,u,P,h3⟩:=this;refine⟨vs,bs,?_,?_,by grind[Gh.put]⟩
     ·simp only[Gh.put,if_neg (Ne.symm e)];exact u.we f (fun j F z=>H i _ j (Ne.symm e) d z F)
     ·refine P.up s (fun b=>⟨fun h=>h.2,fun h=>⟨Ne.symm e,h⟩⟩) f (fun b a aA=>?_);obtain⟨⟨o',l⟩,m⟩:=y b aA;exact(S.sep i b a (by rw[d]; rfl)).2.2.1 id o' l m
 ·intro i i' o o' b d l a W;rw[n] at d l;simp only[Gh.put] at a W;by_cases e:i=id
  ·grind
  ·rw[if_neg e] at a;rw[if_neg (Ne.symm e)] at d;by_cases e':i'=id
   ·grind
   ·rw[if_neg e'] at W;rw[if_neg (Ne.symm e')] at l;exact S.inj i i' o o' b d l a W
 ·intro i o b d a q;rw[n] at d;simp only[Gh.put] at a q;by_cases e:i=id
  ·rw[if_pos e] at a;rcases Q b a with h | h
   ·grind
   ·have:=(S.klt b q).lt; omega
  ·rw[if_neg e] at a;rw[if_neg (Ne.symm e)] at d;exact S.imm i o b d a q
 ·intro i o b d a;rw[n] at d;simp only[Gh.put] at a;by_cases e:i=id
  ·rw[if_pos e] at a;rcases Q b a with h | h
   ·obtain⟨⟨o',l⟩,m⟩:=y b h;exact S.own id o' b l m
   ·exact .inl (Nat.le_trans S.size h)
  ·rw[if_neg e] at a;rw[if_neg (Ne.symm e)] at d;exact S.own i o b d a
 ·intro i b a Q;obtain⟨aB,a⟩:=a;rw[n,if_neg (Ne.symm aB)] at Q;obtain⟨s1,s2,s3,s4⟩:=S.sep i b a Q;have aO:=S.dlt a Q;refine⟨s1,s2,fun j o d F=>?_,fun j F aH=>?_⟩
  ·grind[Gh.put]
  ·obtain⟨aF,F⟩:=F
   grind
def Gh.grd(G:Gh)(id:Nat)(ob:Ob)(D:Nat->Prop)(w':World):Gh :=
 ⟨G.ρ,G.γ,G.K,w',(id,ob) :: G.o,G.B,fun i b=>(i=id/\D b)∨(i≠id/\G.δ i b)⟩
theorem Sat.grd{X:Cx}{G:Gh}(S:Sat X G){id:Nat}{T Te T' Te':TypeId}{fr fr':Bool}{t t':Ty}{xs:List (List (c7 t))}{xs':List (List (c7 t'))}{H hole':Option Nat}{D:Nat->Prop}{w':World}{go:Option Nat}
  (Q:a8 G.o id=some (.grd T Te fr t xs H)) (s:∀b,go=some b->G.γ id=some b) (d:WE go G.w w')
  (hD:∀b,D b->(X.w0.heap.size<=b∨X.io b)/\¬G.K b/\(∀i o,a8 G.o i=some o->G.γ i≠some b)/\∀i,i≠id->G.δ i b->C5 (a8 G.o i)=true->False)
  (aD:GLe G (G.grd id (.grd T' Te' fr' t' xs' hole') D w')->ObR (G.grd id (.grd T' Te' fr' t' xs' hole') D w') id (.grd T' Te' fr' t' xs' hole')) :
  Sat X (G.grd id (.grd T' Te' fr' t' xs' hole') D w')/\GLe G (G.grd id (.grd T' Te' fr' t' xs' hole') D w'):=by
 have E:∀i,a8 (G.grd id (.grd T' Te' fr' t' xs' hole') D w').o i=if id=i then some (.grd T' Te' fr' t' xs' hole') else a8 G.o i:=fun i=>lK _ _ _ _
 have a:∀i o,a8 (G.grd id (.grd T' Te' fr' t' xs' hole') D w').o i=some o->∃o',a8 G.o i=some o':=fun i o h=>by
  grind
 have q:∀i,C5 (a8 (G.grd id (.grd T' Te' fr' t' xs' hole') D w').o i)=C5 (a8 G.o i):=fun i=>by
  rw[E];by_cases e:id=i
  ·subst e; rw[if_pos rfl,Q]; rfl
  grind
 have aC:∀k,G.K k->go≠some k:=fun k n e=>S.imm id _ k Q (s k e) n;have m:GLe G (G.grd id (.grd T' Te' fr' t' xs' hole') D w'):=by
  refine⟨rfl,fun k n hl=>⟨n,d.block k hl (aC k n)⟩,fun i Y W hi=>⟨rfl,?_⟩,fun i Y Te0 f0 t0 x0 h0 hi=>⟨rfl,?_⟩,fun i Y f0 t0 x0 aB hi=>?_⟩
  ·grind
  ·grind
  ·rw[E];by_cases e:id=i
   ·grind
   ·rw[if_neg e]; exact⟨_,_,_,_,_,hi,Nat.le_refl _,fun _=>rfl⟩
 have y:∀i o b,i≠id->a8 G.o i=some o->G.γ i=some b->go≠some b:=fun i o b hi h f e=>hi (S.inj i id o _ b h Q f (s b e));refine⟨⟨S.base,d.os.trans S.os,d.tape.trans S.tape,d.output.trans S.output,Nat.le_trans S.size d.size,fun k n hi=>?_,?_,?_,?_,?_,fun k n=>(S.klt k n).same d.size (m.hK k n (S.klt k n).lt).2,S.kfrom,?_,fun i v h=>(S.pin i v h).mono m⟩,m⟩
 ·refine(d.block k (Nat.lt_of_lt_of_le n S.size) (fun e=>?_)).trans (S.block k n hi);rcases S.own id _ k Q (s k e) with h | h
  ·omega
  grind
 ·intro i o hi;rw[E] at hi;by_cases e:id=i
  ·grind
  ·rw[if_neg e] at hi;have:=S.obs i o hi;cases o with
   | box T W =>
     obtain⟨b,us,l,F,P,h4⟩:=this;exact⟨b,us,l,F,P.we d (fun j g r=>by grind),h4.mono m⟩
   | arr T fr t xs aB =>
     obtain⟨W,l,F,P⟩:=this;exact⟨W,l.we d (fun j g r=>y i _ j (Ne.symm e) hi r g),F.mapR (fun c x hr=>RT.same (w:=G.w) m.hR hr),P⟩
   | grd Y Te0 f0 t0 x0 h0 =>
     obtain⟨vs,bs,l,F,P⟩:=this;refine⟨vs,bs,l.we d (fun j g r=>y i _ j (Ne.symm e) hi r g),F.up m (fun b=>⟨fun h=>?_,fun h=>.inr ⟨Ne.symm e,h⟩⟩) d (fun b f q=>?_),P⟩
     ·rcases h with ⟨h,_⟩ | ⟨_,h⟩
      ·omega
      omega
     ·exact(S.sep i b f (by rw[hi]; rfl)).2.2.1 id _ Q (s b q)
 ·intro i i' o o' b h h' f aA;obtain⟨u,l⟩:=a i o h;obtain⟨o2,F⟩:=a i' o' h';exact S.inj i i' u o2 b l F f aA
 ·intro i o b h f;obtain⟨u,l⟩:=a i o h;exact S.imm i u b l f
 ·intro i o b h f;obtain⟨u,l⟩:=a i o h;exact S.own i u b l f
 ·intro i b f hg;rw[q] at hg;rcases f with ⟨rfl,f⟩ | ⟨hne,f⟩
  ·obtain⟨V,s2,s3,s4⟩:=hD b f;refine⟨V,s2,fun j o h g=>?_,fun j g z=>?_⟩
   ·obtain⟨u,l⟩:=a j o h;exact s3 j u l g
   ·rw[q] at z;rcases g with ⟨e,_⟩ | ⟨e,g⟩
    ·omega
    grind
  ·obtain⟨V,s2,s3,s4⟩:=S.sep i b f hg;refine⟨V,s2,fun j o h g=>?_,fun j g z=>?_⟩
   ·obtain⟨u,l⟩:=a j o h;exact s3 j u l g
   ·rw[q] at z;rcases g with ⟨rfl,g⟩ | ⟨e,g⟩
    ·grind
    grind
def P6(t t':Ty)(x:c7 t):Option (c7 t'):=if h:t=t' then some (h ▸ x) else none
theorem CB{t t':Ty}{x:c7 t}{y:c7 t'}(h:P6 t t' x=some y):∃e:t=t',y=e ▸ x:=by
 unfold P6 at h
 grind
def X2(o:List (Nat×Ob))(rec:(t:Ty)->List AV->Option (c7 t×List Nat×Bool)):(t:Ty)->AV->Option (c7 t×List Nat×Bool)
 | t,.d fr t' x=>match P6 t' t x with
   | some y=>some (y,[],fr||x7 t)
   | none=>none
 | .sl _,.v (.slice none 0 0)=>some ([],[],true)
 | .sl e,.os id ver=>match a8 o id with
   | some (.arr _ fr e' xs ver')=>bif Nat.beq ver ver' then(match P6 (.sl e') (.sl e) xs with
     | some y=>some (y,[id],fr||x7 e)
     | none=>none) else none
   | _=>none
 | .pt e,.ptr id off=>match a8 o id with
   | some (.box _ cs)=>match rec e ((cs.drop off).take (sz e)) with
     | some (x,l,_)=>some (x,id :: l,false)
     | none=>none
   | _=>none
 | _,_=>none
def B0(o:List (Nat×Ob)):Nat->(t:Ty)->List AV->Option (c7 t×List Nat×Bool)
 | 0,_,_=>none
 | n+1,.pr a b,cs=>match B0 o n a (cs.take (sz a)) with
   | some (x,l,f)=>match B0 o n b (cs.drop (sz a)) with
     | some (y,m,g)=>some ((x,y),l++m,f&&g)
     | none=>none
   | none=>none
 | n+1,t,cs=>match cs with
   | [c]=>X2 o (B0 o n) t c
   | _=>none
def rk(G:Gh)(K':Nat->Prop)(fl:Bool)(k:Nat):Prop:=K' k/\(fl=true->G.B<=k)
theorem q0C{X:Cx}{G:Gh}(S:Sat X G){K':Nat->Prop}(hK:∀k,G.K k->K' k){r:(t:Ty)->List AV->Option (c7 t×List Nat×Bool)}
  (m:∀{t:Ty} {cs:List AV} {us:List Value} {x:c7 t} {l:List Nat} {n:Bool},r t cs=some (x,l,n)->(∀id∈l,∀b,G.γ id=some b->K' b)->AVRs G cs us->RT (rk G K' n) G.w t us x)
  {t:Ty} {c:AV} {u:Value} {x:c7 t} {l:List Nat} {n:Bool} (h:X2 G.o r t c=some (x,l,n)) (Q:∀id∈l,∀b,G.γ id=some b->K' b) (g:AVR G c u):RT (rk G K' n) G.w t [u] x:=by
 unfold X2 at h;split at h
 ·rename_i t0 fr t' x0;split at h
  ·rename_i y P;simp only[oi,pj] at h;obtain⟨rfl,rfl,rfl⟩:=h;obtain⟨e,rfl⟩:=CB P;subst e;by_cases V:x7 t'=true
   ·exact RT.free V g
   ·exact RT.up g (fun k f=>⟨hK k f.1,fun e=>f.2 (by grind)⟩)
  grind
 ·simp only[oi,pj] at h;obtain⟨rfl,rfl,rfl⟩:=h;have:u=_:=g;subst this;exact⟨none,0,rfl,Nat.le_refl _,by omega,.inl rfl⟩
 ·rename_i e id aD;split at h
  ·rename_i T fr e' Y aA H;rw[ce] at h;split at h
   ·rename_i E;split at h
    ·rename_i y P;simp only[oi,pj] at h;obtain⟨rfl,rfl,rfl⟩:=h;obtain⟨s,rfl⟩:=CB P;cases s;obtain⟨_,T1,aF,t1,aC,W,F,h2,h3⟩:=g;rw[H] at F;cases F;have g:=h3 (nb E);subst g;obtain⟨cs,q,hA,hB⟩:=S.obs id _ H;have d:AllR (RT (rk G K' (fr||x7 e)) G.w e) cs Y:=hA.mapR (fun c x hr=>by
      by_cases V:x7 e=true
      ·grind[RT.free]
      ·exact RT.up hr (fun k f=>⟨hK k f.1,fun e'=>f.2 (by grind)⟩))
     cases hg:G.γ id with
     | none =>
       rw[hg] at q;rcases q with ⟨_,hn,_,p,hp⟩ | ⟨b,_,_,_,z,_⟩
       ·have:Y=[]:=List.eq_nil_of_length_eq_zero hn;subst this;exact⟨p,0,by grind,Nat.le_refl _,by omega,.inl rfl⟩
       grind
     | some b =>
       rw[hg] at q;obtain⟨o0,c0,s,a⟩:=q.at;rcases q with ⟨h,_⟩ | ⟨b',o1,cap,cur,z,hv2,k1,k2,k3,k4,k5⟩
       ·cases h
       ·cases z;rw[hv2] at s; cases s;exact⟨_,c0,by rw[hv2],k2,(by grind[maxLen]),.inr ⟨b,o0,cs,rfl,⟨Q id (by simp) b hg,fun _=>hB b hg⟩,a,d⟩⟩
    grind
   grind
  grind
 ·rename_i e id j;split at h
  ·rename_i T aB H;split at h
   ·rename_i x1 l1 f1 F;simp only[oi,pj] at h;obtain⟨rfl,rfl,rfl⟩:=h;obtain⟨_,b,z,rfl⟩:=g;obtain⟨b',us,g1,g2,g3,g4⟩:=S.obs id _ H;rw[z] at g2;cases g2;have d:=((g4.take j).2.take (sz e)).1;have hR:=m F (fun i hi=>Q i (by grind)) d;refine⟨b,j,_,rfl,⟨Q id (by simp) b g1,(fun e=>by cases e)⟩,?_,RT.up hR (fun k f=>⟨f.1,(fun e=>by cases e)⟩)⟩;have a:=g3.at;intro i v E;have hi:i<sz e:=by
     rcases Nat.lt_or_ge i (sz e) with h' | h'
     ·exact h'
     ·grind
    rw[List.getElem?_take_of_lt hi,List.getElem?_drop] at E;have:=a (j+i) v E
    grind
   grind
  grind
 grind
theorem BH{X:Cx}{G:Gh}(S:Sat X G){K':Nat->Prop}(hK:∀k,G.K k->K' k):∀(n:Nat) {t:Ty} {cs:List AV} {us:List Value} {x:c7 t} {l:List Nat} {fl:Bool},
  B0 G.o n t cs=some (x,l,fl)->(∀id∈l,∀b,G.γ id=some b->K' b)->AVRs G cs us->RT (rk G K' fl) G.w t us x:=by
 intro n
 induction n with
 | zero=>grind[B0]
 | succ n s =>
   intro t cs us x l fl h y v;have j:∀(t:Ty) (x:c7 t) (r:Option (c7 t×List Nat×Bool)),r=some (x,l,fl)->r=(match(generalizing:=false) cs with | [c]=>X2 G.o (B0 G.o n) t c | _=>none)->RT (rk G K' fl) G.w t us x:=by
    intro t x r m g;rw[m] at g;have h:=g.symm;split at h
    ·rename_i c;obtain⟨u,q,rfl,T,z⟩:=v;have:q=[]:=z
     grind[q0C]
    ·cases h
   cases t with
   | pr a b =>
     unfold B0 at h;split at h
     ·rename_i P W Q F;split at h
      ·rename_i V H Y E;simp only[oi,pj] at h;obtain⟨rfl,rfl,rfl⟩:=h;have d:=AVRs.take v (sz a);refine⟨us.take (sz a),us.drop (sz a),(List.take_append_drop _ _).symm,RT.up (s F (fun id i=>y id (by grind)) d.1) (fun k f=>⟨f.1,fun e=>f.2 ?_⟩),RT.up (s E (fun id i=>y id (by grind)) d.2) (fun k f=>⟨f.1,fun e=>f.2 ?_⟩)⟩
       ·grind
       grind
      grind
     grind
   | _=>exact j _ _ _ h rfl
theorem Tx{X:Cx}{G:Gh}(S:Sat X G){n:Nat}{t:Ty}{cs:List AV}{us:List Value}{x:c7 t}{a:Bool}(h:B0 G.o n t cs=some (x,[],a))(b:AVRs G cs us):RT (rg G a) G.w t us x :=
 BH S (K':=G.K) (fun _ h=>h) n h (fun _ h=>by cases h) b
def s5(fr:Bool):(t:Ty)->c7 t->List AV
 | .pr a b,x=>s5 fr a x.1++s5 fr b x.2
 | .int k,x=>[.d fr (.int k) x]
 | .bool,x=>[.d fr .bool x]
 | .str,x=>[.d fr .str x]
 | .sl e,x=>[.d fr (.sl e) x]
 | .pt e,x=>[.d fr (.pt e) x]
theorem X3{G:Gh}{fr:Bool}:∀{t:Ty} {us:List Value} {x:c7 t},RT (rg G fr) G.w t us x->AVRs G (s5 fr t x) us
 | .pr a b,_,x,⟨c,d,e,h1,h2⟩=>by rw[e]; exact AVRs.app (X3 h2) (X3 h1)
 | .int _,us,x,h=>⟨_,[],h.1,⟨rfl,h.2⟩,rfl⟩
 | .bool,us,x,h=>⟨_,[],(show us=_ from h),rfl,rfl⟩
 | .str,us,x,h=>⟨_,[],h.1,⟨rfl,h.2⟩,rfl⟩
 | .sl e,us,x,⟨p,cap,h1,h⟩=>⟨_,[],h1,⟨p,cap,rfl,h⟩,rfl⟩
 | .pt e,us,x,⟨b,o,ds,h1,h⟩=>⟨_,[],h1,⟨b,o,ds,rfl,h⟩,rfl⟩
def Dy(fr:Bool):(t:Ty)->c7 t->Nat->Option AV
 | t,x,0=>some (.d fr (.pt t) x)
 | .pr a b,x,off=>bif Nat.ble (sz a) off then Dy fr b x.2 (off-sz a) else Dy fr a x.1 off
 | _,_,_=>none
theorem n0C{G:Gh}{fr:Bool}{b:Nat}(k:rg G fr b):∀{t:Ty} {x:c7 t} {off o:Nat} {ds:List Value} {a:AV},Dy fr t x off=some a->At G.w b o ds->RT (rg G fr) G.w t ds x->AVR G a (.pointer (some ⟨b,o+off,none⟩)):=by
 intro t
 induction t with
 | pr q r i n =>
   intro x off o ds a h e g;cases off with
   | zero=>simp only[Dy,oi] at h; subst h; exact⟨b,o,ds,rfl,k,e,g⟩
   | succ off =>
     simp only[Dy,ce] at h;split at h
     ·rename_i f;have f:=Nat.le_of_ble_eq_true f;obtain⟨c,d,rfl,l,m⟩:=g;have j:At G.w b (o+c.length) d:=At.mid (pre:=c) (c:=d) (post:=[]) (by grind)
      grind[RT.len,sz]
     ·obtain⟨c,d,rfl,l,m⟩:=g;exact i h (At.mid (pre:=[]) (c:=c) (post:=d) (by grind)) l
 | _ =>
   intro x off o ds a h e g;cases off with
   | zero=>simp only[Dy,oi] at h; subst h; exact⟨b,o,ds,rfl,k,e,g⟩
   | succ off=>grind[Dy]
abbrev Pa:=List (Nat×Bool)
structure Sl where
 p:Pa
 a:AV
structure St where
 e:List (Nat×Sl)
 o:List (Nat×Ob)
def OS(p q:Pa):Bool:=p.all fun x=>q.any fun y=>Nat.beq x.1 y.1&&(x.2==y.2)
def PathP(p:Pa)(a:Act):Prop:=∀x∈p,a.tmps.getD x.1 undef=.bool x.2
theorem PathP.sub{p q:Pa}{a:Act}(h:PathP q a)(c:OS p q=true):PathP p a:=by
 intro x f;simp only[OS,List.all_eq_true,List.any_eq_true,ba,beq_iff_eq] at c;obtain⟨y,e,b,d⟩:=c x f;have b:=nb b;rw[b,d]; exact h y e
structure EnvR(n:Nat)(G:Gh)(e:List (Nat×Sl))(a:Act):Prop where
 defers:a.defers=[]
 size:a.tmps.size=n
 val:∀t s,a8 e t=some s->(PathP s.p a->AVR G s.a (a.tmps.getD t undef))/\(¬PathP s.p a->a.tmps.getD t undef=undef)
theorem EnvR.mono{n:Nat}{G b:Gh}{e:List (Nat×Sl)}{a:Act}(h:EnvR n G e a)(d:GLe G b):EnvR n b e a :=
 ⟨h.defers,h.size,fun t s c=>⟨fun f=>((h.val t s c).1 f).mono d,(h.val t s c).2⟩⟩
def LY:Value->Option AV
 | .int k n=>bif decide (lo k<=n)&&decide (n<=hi k) then some (.d true (.int k) n) else none
 | .bool b=>some (.d true .bool b)
 | .string s=>bif decide (s.size<=9223372036854775807) then some (.d true .str s) else none
 | .agg _=>none
 | .tuple _=>none
 | u=>some (.v u)
def X4:List Value->Option (List AV)
 | []=>some []
 | u :: r=>match LY u with
   | some a=>match X4 r with
     | some l=>some (a :: l)
     | none=>none
   | none=>none
theorem j0D{G:Gh}{u:Value}{a:AV}(h:LY u=some a):AVR G a u:=by
 unfold LY at h;split at h
 ·rw[ce] at h;split at h
  ·rename_i b;simp only[ba,dq] at b;simp only[oi] at h; subst h; exact⟨rfl,b⟩
  grind
 ·simp only[oi] at h; subst h; exact rfl
 ·rw[ce] at h;split at h
  ·rename_i b;simp only[dq] at b;simp only[oi] at h; subst h; exact⟨rfl,b⟩
  grind
 ·cases h
 ·cases h
 ·simp only[oi] at h; subst h; exact rfl
theorem HR{G:Gh}:∀{us:List Value} {as:List AV},X4 us=some as->AVRs G as us
 | [],as,h=>by simp[X4] at h; subst h; exact rfl
 | u :: r,as,h=>by
   unfold X4 at h;split at h
   ·rename_i a c;split at h
    ·rename_i l b;simp at h; subst h; exact⟨u,r,rfl,j0D c,HR b⟩
    grind
   grind
def OT:Value->Option AV
 | .agg cs=>match X4 cs.toList with
   | some l=>some (.agg l)
   | none=>none
 | u=>LY u
theorem q0H{G:Gh}{u:Value}{a:AV}(h:OT u=some a):AVR G a u:=by
 unfold OT at h;split at h
 ·rename_i b;split at h
  ·rename_i l c;simp at h; subst h; exact⟨b.toList,by simp,HR c⟩
  grind
 grind[j0D]
def rd(st:St)(p:Pa):Operand->Option AV
 | .tmp t=>match a8 st.e t with
   | some s=>bif OS s.p p then some s.a else none
   | none=>none
 | .const v=>OT v
 | .func f=>some (.fn f [])
 | .global g=>some (.v (.pointer (some ⟨g,0,none⟩)))
theorem x8{n:Nat}{G:Gh}{st:St}{a:Act}{p:Pa}(f:EnvR n G st.e a)(c:PathP p a){x:Operand}{v:AV}(h:rd st p x=some v):AVR G v (a.eval x):=by
 unfold rd at h;split at h
 ·rename_i t;split at h
  ·rename_i s d;rw[ce] at h;split at h
   ·rename_i b;simp at h; subst h;exact(f.val t s d).1 (c.sub b)
   grind
  grind
 ·exact q0H h
 ·simp at h; subst h; exact⟨[],rfl,rfl⟩
 ·simp at h; subst h; exact rfl
def H9(st:St)(p:Pa):List Operand->Option (List AV)
 | []=>some []
 | x :: r=>match rd st p x with
   | some a=>match H9 st p r with
     | some l=>some (a :: l)
     | none=>none
   | none=>none
theorem Am{n:Nat}{G:Gh}{st:St}{a:Act}{p:Pa}(d:EnvR n G st.e a)(c:PathP p a):∀{xs:List Operand} {vs:List AV},H9 st p xs=some vs->AVRs G vs (xs.map a.eval)
 | [],vs,h=>by simp[H9] at h; subst h; exact rfl
 | x :: r,vs,h=>by
   unfold H9 at h;split at h
   ·rename_i b g;split at h
    ·rename_i l f;simp at h; subst h; exact⟨_,_,rfl,x8 d c g,Am d c f⟩
    grind
   grind
inductive Kd
 | agg (pl:List (Nat×Nat)) (e:Bool) (ag:List Bool) | sl (E:TypeId) | arr (m:Nat) (E:TypeId) | str | bool | int (k:IntKind) | oth | ptr
structure TI where
 size:Nat
 bytes:Nat
 zero:Value
 kd:Kd
 ty:Ty
def OU(P:Program)(T:TypeId):Nat->List (Nat×Nat)->Prop
 | _,[]=>True
 | k,(off,_) :: r=>LV P T k=some (off,true)/\OU P T (k+1) r
def K0H(P:Program)(t:TypeId):Bool:=match P.underlying t with
 | some (.int _)=>true
 | _=>false
def OV(P:Program):Nat->List Field->Bool
 | _,[]=>true
 | k, f :: r => decide (f.name ≠ "_") && Nat.beq f.offset k && K0H P f.type && OV P (k + 1) r
def Tz(P:Program)(T:TypeId):Bool:=match P.underlying T with
 | some (.struct fs)=>!P.stoodInHeld T&&!P.eqGuardType P.depth T&&OV P 0 fs.toList
 | _=>false
def TA(P:Program)(T:TypeId):Option (List (Bool×Bool)):=match P.underlying T with
 | some (.struct fs)=>some (fs.toList.map fun f=>(Al P f.type,P4 P f.type))
 | _=>none
def OW(P:Program)(T:TypeId):Kd->Prop
 | .agg pl e ag=>Al P T=true/\HN P T=some pl/\LW P T=true/\OU P T 0 pl/\(e=true->Tz P T=true)/\TA P T=some (ag.map fun b=>(b,!b))
 | .arr m E=>Al P T=true/\P.underlying T=some (.array m E)
 | .sl E=>P4 P T=true/\P.underlying T=some (.slice E)
 | .str=>P4 P T=true/\P.underlying T=some .string
 | .bool=>P4 P T=true/\P.underlying T=some .bool
 | .int k=>P4 P T=true/\P.underlying T=some (.int k)
 | .oth=>P4 P T=true
 | .ptr=>P4 P T=true/\P.underlying T=some (.pointer (P.pointee T))
def FV(P:Program)(T:TypeId)(ti:TI):Prop :=
 OK P T=some (ti.size,ti.bytes,some ti.zero)/\BG ti.zero.cells.toList ti.size=true/\Nat.blt 0 ti.size=true/\ones ti.zero.cells.toList=true/\OW P T ti.kd
abbrev m3:=List (Nat×TI)
def s6(P:Program)(Γ:m3):Prop:=∀T ti,a8 Γ T=some ti->FV P T ti
theorem g0n{P:Program}{T:TypeId}:∀{pl:List (Nat×Nat)} {j k:Nat} {x:Nat×Nat},OU P T j pl->pl[k]?=some x->LV P T (j+k)=some (x.1,true)
 | (off,s) :: r,j,0,x,h,hx=>by simp at hx; subst hx; exact h.1
 | (off,s) :: r,j,k+1,x,h,hx=>by
   have:=g0n (j:=j+1) (k:=k) h.2 (by simpa using hx);rw[show j+(k+1)=j+1+k by omega]; exact this
def isAgg:Kd->Bool
 | .agg .. | .arr ..=>true
 | _=>false
theorem z0M{P:Program}{T:TypeId}{a:Kd}(h:OW P T a):(isAgg a=true->Al P T=true)/\(isAgg a=false->P4 P T=true):=by
 cases a with
 | agg c e b=>exact⟨fun _=>h.1,(fun e=>by cases e)⟩
 | arr m E=>exact⟨fun _=>h.1,(fun e=>by cases e)⟩
 | oth=>exact⟨(fun e=>by cases e),fun _=>h⟩
 | _=>exact⟨(fun e=>by cases e),fun _=>h.1⟩
def y9(a:Act):List Operand->x9
 | []=>[]
 | .tmp t :: r=>(t,a.tmps.getD t undef) :: y9 a r
 | _ :: r=>y9 a r
theorem LZ{a:Act}{t:Nat}{v:Value}:∀{xs:List Operand},lk (y9 a xs) t=some v->a.tmps.getD t undef=v
 | [],h=>by cases h
 | .tmp s :: r,h=>by
   rw[y9,OF] at h;by_cases e:s=t
   ·grind
   ·rw[if_neg e] at h; exact LZ h
 | .const _ :: r,h=>LZ (xs:=r) h
 | .global _ :: r,h=>LZ (xs:=r) h
 | .func _ :: r,h=>LZ (xs:=r) h
theorem TB{n:Nat}{G:Gh}{e:List (Nat×Sl)}{a:Act}(h:EnvR n G e a)(xs:List Operand):Agree n (y9 a xs) a:=⟨h.defers,h.size,fun _ _ b=>LZ b⟩
theorem p0z{a:Act}{t:Nat}:∀{xs:List Operand},.tmp t∈xs->lk (y9 a xs) t=some (a.tmps.getD t undef)
 | y :: r,h=>by
   have d:Operand.tmp t∈r->lk (y9 a (y :: r)) t=some (a.tmps.getD t undef):=fun c=>by
    have b:=p0z (a:=a) c;cases y with
    | tmp s =>
      rw[y9,OF];by_cases e:s=t
      ·subst e; simp
      ·rw[if_neg e]; exact b
    | _=>exact b
   grind[y9,OF]
theorem D9{a:Act}{xs:List Operand}{x:Operand}(h:x∈xs):ev (y9 a xs) x=some (a.eval x):=by
 cases x with
 | tmp t=>exact p0z h
 | _=>rfl
def I0(X:Cx)(G:Gh)(a:Act)(op:Op)(ty:TypeId)(av:AV):Prop :=
 ∃v,(∀dst pos after g,(execOp a.eval ⟨dst,op,ty,pos,after,g⟩).run X.P G.w=.ok (.value v) G.w)/\AVR G av v
theorem v8{X:Cx}{G:Gh}{a:Act}{st:St}{f:Op}{ty:TypeId}{av:AV}{v:Value}(i:EnvR X.n G st.e a)(xs:List Operand)(h:B7 X.P X.n (y9 a xs) f ty G.w v G.w)(j:AVR G av v):I0 X G a f ty av :=
 ⟨v,fun d c b g=>h a d c b g (TB i xs),j⟩
def AW:AV->Option (List AV)
 | .agg xs=>bif xs.all OR then some xs else none
 | a=>bif OR a then some [a] else none
theorem OX:∀{us:List Value},(∀u∈us,u.oneCell'=true)->ones us=true
 | [],_=>rfl
 | u :: r,h=>by
   have c:=h u (by simp);have b:=OX (us:=r) (fun v a=>h v (by grind))
   grind[ones,Value.oneCell']
theorem AVRs.ones{G:Gh}:∀{as:List AV} {us:List Value},AVRs G as us->as.all OR=true->∀u∈us,u.oneCell'=true
 | [],us,h,_,u,hu=>by rw[show us=[] from h] at hu; cases hu
 | a :: r,us,⟨u,us',e,h1,h2⟩,ho,x,hx=>by
   simp only[List.all_cons,ba] at ho;rw[e] at hx;rcases List.mem_cons.1 hx with rfl | hx
   ·exact h1.one ho.1
   ·exact AVRs.ones h2 ho.2 x hx
theorem t0X{u:Value}(h:u.oneCell'=true):u.cells.toList=[u]:=by cases u <;> first | rfl | cases h
theorem HS{G:Gh}{a:AV}{cs:List AV}{u:Value}(h:AW a=some cs)(d:AVR G a u):AVRs G cs u.cells.toList/\ones u.cells.toList=true:=by
 unfold AW at h;split at h
 ·rename_i e;rw[ce] at h;split at h
  ·rename_i c;simp at h; subst h;obtain⟨f,rfl,b⟩:=d;simp only[Value.cells,List.toList_toArray];exact⟨b,OX (b.ones c)⟩
  grind
 ·rw[ce] at h;split at h
  ·rename_i c;simp at h; subst h;have b:=d.one c;rw[t0X b];exact⟨⟨u,[],rfl,d,rfl⟩,OX (fun v g=>by grind)⟩
  grind
def HU(ti:TI)(cs:List AV):Option AV :=
 bif isAgg ti.kd then(bif Nat.ble ti.size cs.length then some (.agg (cs.take ti.size)) else none)
 else match cs with
  | c :: _=>some c
  | []=>none
theorem TC{w:World}{b o:Nat}{us:List Value}(h:At w b o us)(k:Nat):At w b o (us.take k):=by
 intro i u a;rcases Nat.lt_or_ge i k with c | c
 ·rw[List.getElem?_take_of_lt c] at a; exact h i u a
 grind
theorem TD{w:World}{b o:Nat}{us:List Value}(h:At w b o us)(k:Nat):At w b (o+k) (us.drop k):=by
 intro i u a;rw[List.getElem?_drop] at a;have:=h (k+i) u a
 grind
theorem p0g{X:Cx}{G:Gh}{a:Act}{st:St}{T:TypeId}{d:TI}{x:Operand}{b o:Nat}{us:List Value}{cs:List AV}{av:AV}{ty:TypeId}(m:EnvR X.n G st.e a)(k:FV X.P T d)
  (y:a.eval x=.pointer (some ⟨b,o,none⟩)) (g:At G.w b o us) (l:AVRs G cs us) (h:HU d cs=some av):I0 X G a (.load T x) ty av:=by
 obtain⟨hi,z,_,_,j⟩:=k;have j:=z0M j;have i:ev (y9 a [x]) x=some (.pointer (some ⟨b,o,none⟩)):=by grind[D9]
 unfold HU at h;rw[ce] at h;split at h
 ·rename_i q;rw[ce] at h;split at h
  ·rename_i f;simp at h; subst h;have f:=Nat.le_of_ble_eq_true f
   haveI:OL X.P T:=⟨j.1 q⟩
   haveI:Info X.P T d.size d.bytes d.zero:=⟨hi⟩
   have s:=l.len;exact v8 m [x] (q0g i (by grind) (TC g d.size)) ⟨us.take d.size,rfl,(l.take _).1⟩
  grind
 ·rename_i q;split at h
  ·rename_i c r;simp at h; subst h
   haveI:OJ X.P T:=⟨j.2 (by grind)⟩
   obtain⟨u,t,rfl,v,_⟩:=l;exact v8 m [x] (s0C i (by simpa using g 0 u rfl)) v
  grind
def TE(a b:Operand)(x y z:Bool):Bool:=match b with
 | .const (.bool false)=>x&&y
 | _=>match a with
   | .const (.bool true)=>x||z
   | _=>bif x then y else z
theorem evB{st:St}{p:Pa}{v:Bool}{f:Bool}{y:Bool}(h:rd st p (.const (.bool v))=some (.d f .bool y)):y=v:=by
 grind[rd,OT,LY]
theorem t0f{st:St}{p q:Pa}{a b:Operand}{f g x y z:Bool}(e:rd st p a=some (.d f .bool y))(c:rd st q b=some (.d g .bool z)):TE a b x y z=bif x then y else z:=by
 unfold TE
 grind[evB]
def CC(k:IntKind)(r:Int):Prop:=lo k<=r/\r<=hi k
def BI(k k':IntKind)(r:Bool):Option (Prop×AV):=bif decide (k=k') then some (True,.d true .bool r) else none
def OY(a b:Int):Bool:=a==b
def neI(a b:Int):Bool:=a != b
def ltI(a b:Int):Bool:=decide (a<b)
def leI(a b:Int):Bool:=decide (a<=b)
def K0S(a b:Int):Option (Prop×AV):=some (CC .i64 (a+b),.d true (.int .i64) (a+b))
def J0g(a b:Int):Option (Prop×AV):=some (CC .i64 (a-b),.d true (.int .i64) (a-b))
def K0D(a b:Int):Option (Prop×AV):=some (CC .i64 (a*b),.d true (.int .i64) (a*b))
def J0B(a b:Int):Option (Prop×AV):=some (0<b,.d true (.int .i64) (a.tdiv b))
def J0l(a b:Int):Option (Prop×AV):=some (0<b,.d true (.int .i64) (a.tmod b))
def J0h(a b:Int):Option (Prop×AV):=some ((0<=b/\b<=62)/\CC .i64 (a*2 ^ b.toNat),.d true (.int .i64) (a*2 ^ b.toNat))
def OZ(k:IntKind)(a b:Int):Option (Prop×AV):=some ((0<=b/\b<=62)/\CC k (a.fdiv (2 ^ b.toNat)),.d true (.int k) (a.fdiv (2 ^ b.toNat)))
def Pb(a b:ByteArray):Bool:=decide (a=b)
def K0Q(a b:ByteArray):Option (Prop×AV):=some (a.size+b.size<=9223372036854775807,.d true .str (a++b))
def FW:List AV->List AV->Option Bool
 | [],[]=>some true
 | .d _ (.int k) a :: r,.d _ (.int k') b :: s=>bif decide (k=k') then(match FW r s with | some e=>some (OY a b&&e) | none=>none) else none
 | _,_=>none
def Pc(ti:Option TI)(xs ys:List AV):Option Bool:=match ti with
 | some ⟨_,_,_,.agg pl true _,_⟩=>bif Nat.beq pl.length xs.length then FW xs ys else none
 | _=>none
def Pd(k:IntKind)(a b:Int):Option (Prop×AV):=some (0<=a/\0<=b,.d true (.int k) ((a.toNat &&& b.toNat:Nat):Int))
def Ma(ti:Option TI):BinOp->AV->AV->Option (Prop×AV)
 | .eql,.d _ (.int k) a,.d _ (.int k') b=>BI k k' (OY a b)
 | .neq,.d _ (.int k) a,.d _ (.int k') b=>BI k k' (neI a b)
 | .lss,.d _ (.int k) a,.d _ (.int k') b=>BI k k' (ltI a b)
 | .leq,.d _ (.int k) a,.d _ (.int k') b=>BI k k' (leI a b)
 | .gtr,.d _ (.int k) a,.d _ (.int k') b=>BI k k' (ltI b a)
 | .geq,.d _ (.int k) a,.d _ (.int k') b=>BI k k' (leI b a)
 | .add,.d _ (.int .i64) a,.d _ (.int .i64) b=>K0S a b
 | .sub,.d _ (.int .i64) a,.d _ (.int .i64) b=>J0g a b
 | .mul,.d _ (.int .i64) a,.d _ (.int .i64) b=>K0D a b
 | .quo,.d _ (.int .i64) a,.d _ (.int .i64) b=>J0B a b
 | .rem,.d _ (.int .i64) a,.d _ (.int .i64) b=>J0l a b
 | .eql,.d _ .str a,.d _ .str b=>some (True,.d true .bool (Pb a b))
 | .neq,.d _ .str a,.d _ .str b=>some (True,.d true .bool (!Pb a b))
 | .add,.d _ .str a,.d _ .str b=>K0Q a b
 | .eql,.d _ .bool a,.d _ .bool b=>match ti with
   | some ⟨_,_,_,.bool,_⟩=>some (True,.d true .bool (a==b))
   | _=>none
 | .neq,.d _ .bool a,.d _ .bool b=>match ti with
   | some ⟨_,_,_,.bool,_⟩=>some (True,.d true .bool (!(a==b)))
   | _=>none
 | .shl,.d _ (.int .i64) a,.d _ (.int _) b=>J0h a b
 | .shr,.d _ (.int .i64) a,.d _ (.int _) b=>OZ .i64 a b
 | .shr,.d _ (.int .u64) a,.d _ (.int _) b=>OZ .u64 a b
 | .eql,.agg xs,.agg ys=>match Pc ti xs ys with
   | some e=>some (True,.d true .bool e)
   | none=>none
 | .neq,.agg xs,.agg ys=>match Pc ti xs ys with
   | some e=>some (True,.d true .bool (!e))
   | none=>none
 | .add,.d _ (.int .u8) a,.d _ (.int .u8) b=>some (CC .u8 (a+b),.d true (.int .u8) (a+b))
 | .sub,.d _ (.int .u8) a,.d _ (.int .u8) b=>some (CC .u8 (a-b),.d true (.int .u8) (a-b))
 | .eql,.d _ (.pt _) _,.v (.pointer none)=>match ti with
   | some ⟨_,_,_,.ptr,_⟩=>some (True,.d true .bool false)
   | _=>none
 | .neq,.d _ (.pt _) _,.v (.pointer none)=>match ti with
   | some ⟨_,_,_,.ptr,_⟩=>some (True,.d true .bool true)
   | _=>none
 | .eql,.v (.pointer none),.v (.pointer none)=>match ti with
   | some ⟨_,_,_,.ptr,_⟩=>some (True,.d true .bool true)
   | _=>none
 | .neq,.v (.pointer none),.v (.pointer none)=>match ti with
   | some ⟨_,_,_,.ptr,_⟩=>some (True,.d true .bool false)
   | _=>none
 | .and,.d _ (.int .i64) a,.d _ (.int .i64) b=>Pd .i64 a b
 | .and,.d _ (.int .u64) a,.d _ (.int .u64) b=>Pd .u64 a b
 | .add,.d _ (.int .u64) a,.d _ (.int .u64) b=>some (True,.d true (.int .u64) ((a+b) % 18446744073709551616))
 | .mul,.d _ (.int .u64) a,.d _ (.int .u64) b=>some (True,.d true (.int .u64) ((a*b) % 18446744073709551616))
 | _,_,_=>none
theorem A5{G:Gh}{fr:Bool}{k:IntKind}{x:Int}{u:Value}(h:AVR G (.d fr (.int k) x) u):u=.int k x/\lo k<=x/\x<=hi k:=⟨by have:=h.1; simpa using this,h.2⟩
theorem CD{G:Gh}{fr:Bool}{x:Bool}{u:Value}(h:AVR G (.d fr .bool x) u):u=.bool x:=by have:[u]=_:=h; simpa using this
theorem Pe{G:Gh}{fr:Bool}{s:ByteArray}{u:Value}(h:AVR G (.d fr .str s) u):u=.string s/\s.size<=9223372036854775807:=⟨by have:=h.1; simpa using this,h.2⟩
theorem A0S{i j:Int}(b:J9 j)(a:0<j):J9 (i.tmod j):=by
 have c:=Int.tmod_lt_of_pos i a;have d : -j<i.tmod j:=by
  have:=Int.tmod_lt_of_pos (-i) a;rw[Int.neg_tmod] at this; omega
 grind[J9]
theorem Pf(k:IntKind){n:Int}(h:lo k<=n/\n<=hi k):k.wrap n=n:=by
 cases k <;> simp only[lo,hi] at h
 ·grind[IntWalk.i8_in]
 ·grind[IntWalk.i16_in]
 ·grind[IntWalk.i32_in]
 ·grind[IntWalk.i64_in]
 ·grind[IntWalk.u8_in]
 ·grind[IntWalk.u16_in]
 ·grind[IntWalk.u32_in]
 grind[IntWalk.u64_in]
theorem v0D{P:Program}{n:Nat}{e:x9}{w:World}{T T' ty:TypeId}{x y:Operand}{k:IntKind}{a b:Int}(j:ev e x=some (.int .i64 a))(i:ev e y=some (.int k b))(o:0<=b/\b<=62)(h:lo .i64<=a*2 ^ b.toNat/\a*2 ^ b.toNat<=hi .i64) :
  B7 P n e (.binOp .shl T x y T') ty w (.int .i64 (a*2 ^ b.toNat)) w:=by
 intro r l f c g d;have m:¬b<0:=by omega
 have q:min b.toNat IntKind.i64.bits=b.toNat:=Nat.min_eq_left (by show b.toNat<=64; omega);simp only[execOp,d.ev j,d.ev i];simp[eqGuard,binOp,Pf .i64 h]
theorem o0C{P:Program}{n:Nat}{e:x9}{w:World}{T T' ty:TypeId}{x y:Operand}{k c:IntKind}{a b:Int}(l:ev e x=some (.int c a))(i:ev e y=some (.int k b))(r:0<=b/\b<=62)(q:64<=c.bits) :
  B7 P n e (.binOp .shr T x y T') ty w (.int c (a.fdiv (2 ^ b.toNat))) w:=by
 intro s m h d g f;have j:¬b<0:=by omega
 have o:min b.toNat c.bits=b.toNat:=Nat.min_eq_left (by omega);simp only[execOp,f.ev l,f.ev i];simp[eqGuard,binOp,Op.shift,j,o]
theorem s0D{P:Program}{n:Nat}{e:x9}{w:World}{T T' ty:TypeId}{x y:Operand}{a b r:Int}{c:BinOp}(m:ev e x=some (.int .u8 a))(l:ev e y=some (.int .u8 b))(i:(c=.add/\r=a+b)∨(c=.sub/\r=a-b))(k:lo .u8<=r/\r<=hi .u8) :
  B7 P n e (.binOp c T x y T') ty w (.int .u8 r) w:=by
 intro q o j d g f;simp only[execOp,f.ev m,f.ev l];have h:=Pf .u8 k;rcases i with ⟨rfl,rfl⟩ | ⟨rfl,rfl⟩
 ·simp[eqGuard,binOp,Op.intArith,h]
 ·simp[eqGuard,binOp,Op.intArith,h]
theorem o0D{P:Program}{n:Nat}{e:x9}{w:World}{T T' ty:TypeId}{x y:Operand}{k:IntKind}{a b:Int}(i:k=.i64∨k=.u64)(E:ev e x=some (.int k a))(v:ev e y=some (.int k b))(q:0<=a/\a<=hi k)(s:0<=b/\b<=hi k) :
  B7 P n e (.binOp .and T x y T') ty w (.int k ((a.toNat &&& b.toNat:Nat):Int)) w/\0<=((a.toNat &&& b.toNat:Nat):Int)/\((a.toNat &&& b.toNat:Nat):Int)<=hi k:=by
 have t:((a.toNat &&& b.toNat:Nat):Int)<=a:=by
  have:=Nat.and_le_left (n:=a.toNat) (m:=b.toNat);omega
 have F:(0:Int)<=((a.toNat &&& b.toNat:Nat):Int):=Int.natCast_nonneg _;have c:∀x:Int,x<=hi k->x<18446744073709551616:=fun x h=>by
  rcases i with rfl | rfl
  ·have:hi .i64=9223372036854775807:=rfl;omega
  ·have:hi .u64=18446744073709551615:=rfl;omega
 have f:lo k<=((a.toNat &&& b.toNat:Nat):Int):=by
  rcases i with rfl | rfl
  ·have:lo .i64 = -9223372036854775808:=rfl;omega
  ·have:lo .u64=0:=rfl;omega
 have r:=Pf k ⟨f,(by omega:((a.toNat &&& b.toNat:Nat):Int)<=hi k)⟩;refine⟨?_,F,by omega⟩;intro G z u j g d;simp only[execOp,d.ev E,d.ev v];have l:a % 18446744073709551616=a:=Int.emod_eq_of_lt q.1 (c a q.2);have o:b % 18446744073709551616=b:=Int.emod_eq_of_lt s.1 (c b s.2);rcases i with rfl | rfl
 ·simp[eqGuard,binOp,Op.intBits,show IntKind.bits .i64=64 from rfl,l,o,r]
 ·simp[eqGuard,binOp,Op.intBits,show IntKind.bits .u64=64 from rfl,l,o,r]
theorem o0B{P:Program}{n:Nat}{e:x9}{w:World}{T T' ty:TypeId}{x y:Operand}{a b r:Int}{c:BinOp}(l:ev e x=some (.int .u64 a))(k:ev e y=some (.int .u64 b))(i:(c=.add/\r=a+b)∨(c=.mul/\r=a*b)) :
  B7 P n e (.binOp c T x y T') ty w (.int .u64 (r % 18446744073709551616)) w:=by
 intro o m j d g f;simp only[execOp,f.ev l,f.ev k];have h:IntKind.wrap .u64 r=r % 18446744073709551616:=by
  unfold IntKind.wrap;simp[IntKind.signed,IntKind.bits]
 rcases i with ⟨rfl,rfl⟩ | ⟨rfl,rfl⟩
 ·simp[eqGuard,binOp,Op.intArith,h]
 ·simp[eqGuard,binOp,Op.intArith,h]
theorem t0J{P:Program}{w:World}{G:Gh}{d:Nat}{xs i:Array Value}:∀{fs:List Field} {k:Nat} {as bs:List AV} {e:Bool},OV P k fs=true->fs.length=as.length->FW as bs=some e->AVRs G as (xs.toList.drop k)->AVRs G bs (i.toList.drop k) ->
  (Op.eqFields (d+1) xs i fs).run P w=.ok e w
 | [],k,[],bs,e,_,_,h,_,_=>by
   cases bs with
   | nil=>simp only[FW,oi] at h; subst h; simp[Op.eqFields]
   | cons b r=>grind[FW]
 | f :: r,k,a :: as,bs,e,hf,hl,h,hx,hy=>by
   unfold FW at h;split at h
   ·grind
   ·rename_i g q x V g' Q y aA H;cases H;rw[ce] at h;split at h
    ·rename_i m;have m:q=Q:=by simpa using m
     subst m;split at h
     ·rename_i e' n;simp only[oi] at h; subst h;simp only[OV,ba,dq] at hf;obtain⟨⟨⟨Y,j⟩,hi⟩,T⟩:=hf;have j:=nb j;obtain⟨u,z,E,hu,s⟩:=hx;obtain⟨v,t,ev,hv,l⟩:=hy;obtain⟨rfl,_⟩:=A5 hu;obtain⟨rfl,_⟩:=A5 hv;have W:xs[f.offset]?=some (.int q x):=by
       have:(xs.toList.drop k)[0]?=some (.int q x):=by rw[E]; rfl
       rw[List.getElem?_drop] at this;rw[j]; simpa using this
      have X:i[f.offset]?=some (.int q y):=by
       have:(i.toList.drop k)[0]?=some (.int q y):=by rw[ev]; rfl
       rw[List.getElem?_drop] at this;rw[j]; simpa using this
      have dx:z=xs.toList.drop (k+1):=by
       have:(xs.toList.drop k).drop 1=z:=by rw[E]; rfl
       rw[List.drop_drop] at this; exact this.symm
      have dy:t=i.toList.drop (k+1):=by
       have:(i.toList.drop k).drop 1=t:=by rw[ev]; rfl
       rw[List.drop_drop] at this; exact this.symm
      subst dx; subst dy;have ih:=t0J (w:=w) (d:=d) T (by simpa using hl) n s l;unfold K0H at hi;split at hi
      ·rename_i k0 c;have p1:(part f.type xs f.offset).run P w=.ok (.int q x) w:=by simp[part,Go.isAgg,run_underlying c,W]
       have F:(part f.type i f.offset).run P w=.ok (.int q y) w:=by simp[part,Go.isAgg,run_underlying c,X]
       have p3:=run_equalIn_int w d f.type q k0 x y c;simp only[Op.eqFields,Y,ne_eq,not_false_eq_true,if_true,Sem.run_bind,p1,F,p3,Result.andThen_ok];by_cases o:x=y
       ·grind[OY]
       ·simp[OY,o]
      grind
     grind
    grind
   grind
theorem v0K{P:Program}{n:Nat}{l:x9}{w:World}{G:Gh}{T T' ty:TypeId}{x y:Operand}{us vs:List Value}{j t:List AV}{e:Bool}{pl:List (Nat×Nat)}(r:ev l x=some (.agg us.toArray))(u:ev l y=some (.agg vs.toArray))
  (H:AVRs G j us) (E:AVRs G t vs) {F:List Bool} (Q:OW P T (.agg pl true F)) (Y:pl.length=j.length) (h:FW j t=some e) :
  B7 P n l (.binOp .eql T x y T') ty w (.bool e) w/\B7 P n l (.binOp .neq T x y T') ty w (.bool (!e)) w:=by
 obtain⟨_,k,_,_,c,_⟩:=Q;have c:=c rfl;unfold Tz at c;split at c
 ·rename_i s v;simp only[ba,Bool.not_eq_true'] at c;obtain⟨⟨X,z⟩,W⟩:=c;have o:P.fieldsOf T=s:=by unfold Program.fieldsOf; rw[v]
  have i:s.toList.length=j.length:=by
   unfold HN at k;rw[v] at k;simp only[oi] at k;rw[<- Y,<- k,List.length_map]
  have f:(Op.equalIn 10000 T (.agg us.toArray) (.agg vs.toArray)).run P w=.ok e w:=by
   rw[run_equalIn_struct w 9999 T _ _ (by grind) X,o];exact t0J (d:=9998) W i h H E
  constructor
  ·intro V q m b g a;simp only[execOp,a.ev r,a.ev u];simp[run_eqGuard_agg w .eql T x y us.toArray vs.toArray z,run_eql_struct,f]
  ·intro V q m b g a;simp only[execOp,a.ev r,a.ev u];simp[run_eqGuard_agg w .neq T x y us.toArray vs.toArray z,run_neq_struct,f]
 grind
theorem j0y{X:Cx}{G:Gh}{a:Act}{st:St}{T T' ty:TypeId}{g:Option TI}{x y:Operand}{k j:List AV}{e:Bool}(i:EnvR X.n G st.e a)(f:∀t,g=some t->FV X.P T t)
  (l:AVR G (.agg k) (a.eval x)) (v:AVR G (.agg j) (a.eval y)) (h:Pc g k j=some e):I0 X G a (.binOp .eql T x y T') ty (.d true .bool e)/\I0 X G a (.binOp .neq T x y T') ty (.d true .bool (!e)):=by
 have c:ev (y9 a [x,y]) x=some (a.eval x):=D9 (by simp);have b:ev (y9 a [x,y]) y=some (a.eval y):=D9 (by simp);unfold Pc at h;split at h
 ·rw[ce] at h;split at h
  ·rename_i s;obtain⟨E,m,z⟩:=l;obtain⟨F,r,o⟩:=v;rw[m] at c;rw[r] at b;obtain⟨u,q⟩:=v0K (P:=X.P) (n:=X.n) (w:=G.w) (T':=T') (ty:=ty) c b z o (f _ rfl).2.2.2.2 (nb s) h;exact⟨v8 i [x,y] u rfl,v8 i [x,y] q rfl⟩
  grind
 grind
theorem j0i{P:Program}{n:Nat}{e:x9}{ty:TypeId}{w:World}{T T':TypeId}{x y:Operand}{q:Option Addr}(j:P.underlying T=some (.pointer (P.pointee T)))(h:Sv.ev e x=some (.pointer q))(f:Sv.ev e y=some (.pointer none)) :
  B7 P n e (.binOp .eql T x y T') ty w (.bool q.isNone) w:=by
 intro a i d b g c;have:=run_eql_pointer_nil w T q j;simp only[execOp,c.ev h,c.ev f];simp[eqGuard,this,Result.andThen]
theorem j0h{P:Program}{n:Nat}{e:x9}{ty:TypeId}{w:World}{T T':TypeId}{x y:Operand}{q:Option Addr}(j:P.underlying T=some (.pointer (P.pointee T)))(h:Sv.ev e x=some (.pointer q))(f:Sv.ev e y=some (.pointer none)) :
  B7 P n e (.binOp .neq T x y T') ty w (.bool (!q.isNone)) w:=by
 intro a i d b g c;have:=run_neq_pointer_nil w T q j;simp only[execOp,c.ev h,c.ev f];simp[eqGuard,this,Result.andThen]
theorem q0J{X:Cx}{G:Gh}{a:Act}{st:St}{op:BinOp}{T T' ty:TypeId}{ti:Option TI}{x y:Operand}{u v r:AV}{q:Prop}(E:EnvR X.n G st.e a)(Q:∀t,ti=some t->FV X.P T t)
  (F:AVR G u (a.eval x)) (H:AVR G v (a.eval y)) (h:Ma ti op u v=some (q,r)) (z:q):I0 X G a (.binOp op T x y T') ty r:=by
 have l:ev (y9 a [x,y]) x=some (a.eval x):=D9 (by simp);have c:ev (y9 a [x,y]) y=some (a.eval y):=D9 (by simp);have V:∀{o:BinOp} {f g:Bool} {k k':IntKind} {i j:Int} {aA:Bool} {q':Prop} {r':AV},u=.d f (.int k) i->v=.d g (.int k') j->BI k k' aA=some (q',r')->Tn o i j=some aA->op=o->r'=r ->
   I0 X G a (.binOp op T x y T') ty r:=by
  intro o f g k k' i j aA q' r' e1 e2 hb hc ho hr;subst e1; subst e2;unfold BI at hb;rw[ce] at hb;split at hb
  ·rename_i hk;have hk:k=k':=by simpa using hk
   subst hk;simp only[oi,pj] at hb;obtain⟨_,rfl⟩:=hb;obtain⟨m,_⟩:=A5 F;obtain⟨s,_⟩:=A5 H;rw[m] at l;rw[s] at c;refine v8 E [x,y] (v:=.bool aA) (BF ?_) ?_
   ·grind[Ak,LS]
   ·rw[<- hr]; exact rfl
  ·cases hb
 have ar:∀{f g:Bool} {i j:Int},u=.d f (.int .i64) i->v=.d g (.int .i64) j->ev (y9 a [x,y]) x=some (.int .i64 i)/\ev (y9 a [x,y]) y=some (.int .i64 j)/\J9 i/\J9 j:=by
  intro f g i j e1 e2;subst e1; subst e2;obtain⟨m,W⟩:=A5 F;obtain⟨s,Y⟩:=A5 H;rw[m] at l;rw[s] at c;exact⟨l,c,W,Y⟩
 have sr:∀{f g:Bool} {i j:ByteArray},u=.d f .str i->v=.d g .str j->ev (y9 a [x,y]) x=some (.string i)/\ev (y9 a [x,y]) y=some (.string j):=by
  intro f g i j e1 e2;subst e1; subst e2;rw[(Pe F).1] at l;rw[(Pe H).1] at c;exact⟨l,c⟩
 have br:∀{f g i j:Bool},u=.d f .bool i->v=.d g .bool j->ev (y9 a [x,y]) x=some (.bool i)/\ev (y9 a [x,y]) y=some (.bool j):=by
  intro f g i j e1 e2;subst e1; subst e2;rw[CD F] at l;rw[CD H] at c;exact⟨l,c⟩
 unfold Ma at h;split at h
 ·exact V rfl rfl h rfl rfl rfl
 ·exact V rfl rfl h rfl rfl rfl
 ·exact V rfl rfl h rfl rfl rfl
 ·exact V rfl rfl h rfl rfl rfl
 ·exact V rfl rfl h rfl rfl rfl
 ·exact V rfl rfl h rfl rfl rfl
 ·simp only[K0S,oi,pj] at h;obtain⟨rfl,rfl⟩:=h;obtain⟨m,s,_⟩:=ar rfl rfl;exact v8 E [x,y] (v0M m s z) ⟨rfl,z⟩
 ·simp only[J0g,oi,pj] at h;obtain⟨rfl,rfl⟩:=h;obtain⟨m,s,_⟩:=ar rfl rfl;exact v8 E [x,y] (v0C m s z) ⟨rfl,z⟩
 ·simp only[K0D,oi,pj] at h;obtain⟨rfl,rfl⟩:=h;obtain⟨m,s,_⟩:=ar rfl rfl;exact v8 E [x,y] (v0I m s z) ⟨rfl,z⟩
 ·simp only[J0B,oi,pj] at h;obtain⟨rfl,rfl⟩:=h;obtain⟨m,s,h3,_⟩:=ar rfl rfl;exact v8 E [x,y] (v0F m s h3 z) ⟨rfl,s0j h3 z⟩
 ·simp only[J0l,oi,pj] at h;obtain⟨rfl,rfl⟩:=h;obtain⟨m,s,h3,h4⟩:=ar rfl rfl;exact v8 E [x,y] (v0E m s (by omega)) ⟨rfl,A0S h4 z⟩
 ·simp only[oi,pj] at h;obtain⟨rfl,rfl⟩:=h;obtain⟨m,s⟩:=sr rfl rfl;exact v8 E [x,y] (BF (by grind[Ak,LS,OI,Pb])) rfl
 ·simp only[oi,pj] at h;obtain⟨rfl,rfl⟩:=h;obtain⟨m,s⟩:=sr rfl rfl;exact v8 E [x,y] (BF (by grind[Ak,LS,OI,Pb])) rfl
 ·simp only[K0Q,oi,pj] at h;obtain⟨rfl,rfl⟩:=h;obtain⟨m,s⟩:=sr rfl rfl;exact v8 E [x,y] (v0L m s z) ⟨rfl,by grind⟩
 ·split at h
  ·simp only[oi,pj] at h;obtain⟨rfl,rfl⟩:=h;obtain⟨m,s⟩:=br rfl rfl
   haveI:HO X.P T:=⟨(Q _ rfl).2.2.2.2.2⟩
   exact v8 E [x,y] (v0J m s) rfl
  grind
 ·split at h
  ·simp only[oi,pj] at h;obtain⟨rfl,rfl⟩:=h;obtain⟨m,s⟩:=br rfl rfl
   haveI:HO X.P T:=⟨(Q _ rfl).2.2.2.2.2⟩
   exact v8 E [x,y] (v0H m s) rfl
  grind
 ·simp only[J0h,oi,pj] at h;obtain⟨rfl,rfl⟩:=h;obtain⟨m,_⟩:=A5 F;obtain⟨s,_⟩:=A5 H;rw[m] at l;rw[s] at c;exact v8 E [x,y] (v0D l c z.1 z.2) ⟨rfl,z.2⟩
 ·simp only[OZ,oi,pj] at h;obtain⟨rfl,rfl⟩:=h;obtain⟨m,_⟩:=A5 F;obtain⟨s,_⟩:=A5 H;rw[m] at l;rw[s] at c;exact v8 E [x,y] (o0C l c z.1 (Nat.le_refl 64)) ⟨rfl,z.2⟩
 ·simp only[OZ,oi,pj] at h;obtain⟨rfl,rfl⟩:=h;obtain⟨m,_⟩:=A5 F;obtain⟨s,_⟩:=A5 H;rw[m] at l;rw[s] at c;exact v8 E [x,y] (o0C l c z.1 (Nat.le_refl 64)) ⟨rfl,z.2⟩
 ·grind[oi,pj,j0y]
 ·split at h
  ·rename_i he;simp only[oi,pj] at h;obtain⟨rfl,rfl⟩:=h;exact(j0y E Q F H he).2
  grind
 ·simp only[oi,pj] at h;obtain⟨rfl,rfl⟩:=h;obtain⟨m,_⟩:=A5 F;obtain⟨s,_⟩:=A5 H;rw[m] at l;rw[s] at c;exact v8 E [x,y] (s0D l c (.inl ⟨rfl,rfl⟩) z) ⟨rfl,z⟩
 ·simp only[oi,pj] at h;obtain⟨rfl,rfl⟩:=h;obtain⟨m,_⟩:=A5 F;obtain⟨s,_⟩:=A5 H;rw[m] at l;rw[s] at c;exact v8 E [x,y] (s0D l c (.inr ⟨rfl,rfl⟩) z) ⟨rfl,z⟩
 ·split at h
  ·simp only[oi,pj] at h;obtain⟨rfl,rfl⟩:=h;obtain⟨b,o,ds,m,_⟩:=F;simp only[List.cons.injEq,and_true] at m;have s:a.eval y=.pointer none:=H;rw[m] at l;rw[s] at c;exact v8 E [x,y] (j0i (Q _ rfl).2.2.2.2.2 l c) rfl
  grind
 ·split at h
  ·simp only[oi,pj] at h;obtain⟨rfl,rfl⟩:=h;obtain⟨b,o,ds,m,_⟩:=F;simp only[List.cons.injEq,and_true] at m;have s:a.eval y=.pointer none:=H;rw[m] at l;rw[s] at c;exact v8 E [x,y] (j0h (Q _ rfl).2.2.2.2.2 l c) rfl
  grind
 ·split at h
  ·simp only[oi,pj] at h;obtain⟨rfl,rfl⟩:=h;have m:a.eval x=.pointer none:=F;have s:a.eval y=.pointer none:=H;rw[m] at l;rw[s] at c;exact v8 E [x,y] (j0i (Q _ rfl).2.2.2.2.2 l c) rfl
  grind
 ·split at h
  ·simp only[oi,pj] at h;obtain⟨rfl,rfl⟩:=h;have m:a.eval x=.pointer none:=F;have s:a.eval y=.pointer none:=H;rw[m] at l;rw[s] at c;exact v8 E [x,y] (j0h (Q _ rfl).2.2.2.2.2 l c) rfl
  grind
 ·simp only[Pd,oi,pj] at h;obtain⟨rfl,rfl⟩:=h;obtain⟨m,W⟩:=A5 F;obtain⟨s,Y⟩:=A5 H;rw[m] at l;rw[s] at c;obtain⟨hr,aC,aB⟩:=o0D (P:=X.P) (n:=X.n) (w:=G.w) (T:=T) (T':=T') (ty:=ty) (.inl rfl) l c ⟨z.1,W.2⟩ ⟨z.2,Y.2⟩;have h0:lo .i64<=0:=by decide
  exact v8 E [x,y] hr ⟨rfl,Int.le_trans h0 aC,aB⟩
 ·simp only[Pd,oi,pj] at h;obtain⟨rfl,rfl⟩:=h;obtain⟨m,W⟩:=A5 F;obtain⟨s,Y⟩:=A5 H;rw[m] at l;rw[s] at c;obtain⟨hr,aC,aB⟩:=o0D (P:=X.P) (n:=X.n) (w:=G.w) (T:=T) (T':=T') (ty:=ty) (.inr rfl) l c ⟨z.1,W.2⟩ ⟨z.2,Y.2⟩;have h0:lo .u64<=0:=by decide
  exact v8 E [x,y] hr ⟨rfl,Int.le_trans h0 aC,aB⟩
 ·simp only[oi,pj] at h;obtain⟨rfl,rfl⟩:=h;obtain⟨m,_⟩:=A5 F;obtain⟨s,_⟩:=A5 H;rw[m] at l;rw[s] at c;exact v8 E [x,y] (o0B l c (.inl ⟨rfl,rfl⟩)) ⟨rfl,Int.emod_nonneg _ (by decide),Int.le_of_lt_add_one (Int.emod_lt_of_pos _ (by decide))⟩
 ·simp only[oi,pj] at h;obtain⟨rfl,rfl⟩:=h;obtain⟨m,_⟩:=A5 F;obtain⟨s,_⟩:=A5 H;rw[m] at l;rw[s] at c;exact v8 E [x,y] (o0B l c (.inr ⟨rfl,rfl⟩)) ⟨rfl,Int.emod_nonneg _ (by decide),Int.le_of_lt_add_one (Int.emod_lt_of_pos _ (by decide))⟩
 grind
def B8{β:Type}:List β->Nat->Option β
 | [],_=>none
 | x :: _,0=>some x
 | _ :: r,n+1=>B8 r n
theorem U8{a:Type}:∀(l:List a) (n:Nat),B8 l n=l[n]?
 | [],_=>by simp[B8]
 | _ :: _,0=>by simp[B8]
 | _ :: r,n+1=>by simp[B8,U8 r n]
def P7(o:List (Nat×Ob)):AV->Option (List AV×List Nat)
 | .ptr id off=>match a8 o id with
   | some (.box _ cs)=>some (cs.drop off,[id])
   | _=>none
 | .pel id ver k s off=>match a8 o id with
   | some (.arr _ fr t xs ver')=>bif Nat.beq ver ver'&&Nat.beq s (sz t) then some ((s5 fr t (xs.getD k (a6 t))).drop off,[id]) else none
   | _=>none
 | .d fr (.pt t) x=>some (s5 fr t x,[])
 | _=>none
def AX(o:List (Nat×Ob)):AV->Prop
 | .pel id _ k _ _=>match a8 o id with
   | some (.arr _ _ _ xs _)=>k<xs.length
   | _=>True
 | _=>True
theorem s0N{w:World}{T:TypeId}{s n b d o g i:Nat}{v:Value}{cs:List Value}(h:Own w T s (some b) v n cs)(j:v=.slice (some ⟨d,o,none⟩) g i){k:Nat}{c pre post:List Value}(e:cs=pre++c++post)(m:pre.length=k*s):b=d/\At w b (o+k*s) c:=by
 obtain⟨l,q,f,a⟩:=h.at;rw[j] at f;cases f;rw[e] at a;have:=a.mid
 grind
theorem TF{X:Cx}{G:Gh}(S:Sat X G){p:AV}{u:Value}{cs:List AV}{l:List Nat}(h:P7 G.o p=some (cs,l))(hq:AX G.o p)(v:AVR G p u):∃b o us,u=.pointer (some ⟨b,o,none⟩)/\At G.w b o us/\AVRs G cs us:=by
 unfold P7 at h;split at h
 ·rename_i id a;split at h
  ·rename_i T aB f;simp only[oi,pj] at h;obtain⟨rfl,rfl⟩:=h;obtain⟨_,b,m,rfl⟩:=v;obtain⟨F,us,g1,Y,g3,g4⟩:=S.obs id _ f;rw[m] at Y;cases Y;exact⟨b,a,us.drop a,rfl,by simpa using TD g3.at a,(g4.take a).2⟩
  grind
 ·rename_i id aD k s a;split at h
  ·rename_i T fr t E V f;rw[ce] at h;split at h
   ·rename_i y;simp only[ba] at y;have r:=nb y.1;have z:=nb y.2;subst r; subst z;simp only[oi,pj] at h;obtain⟨rfl,rfl⟩:=h;have H:k<E.length:=by simpa only[AX,f] using hq
    obtain⟨_,T1,aF,t1,aC,W,g,h2,h3⟩:=v;rw[f] at g;cases g;obtain⟨b,o,n,c,hr,rfl⟩:=h3 rfl;obtain⟨cs,i,hA,aA⟩:=S.obs id _ f;obtain⟨aG,c',P,e,hp,Q⟩:=hA.get (fun c x h=>RT.len h) H;cases hg:G.γ id with
    | none =>
      rw[hg] at i;rcases i with ⟨_,hn,_⟩ | ⟨F,_,_,_,m,_⟩
      ·omega
      grind
    | some F =>
      rw[hg] at i;obtain⟨j,d⟩:=s0N i hr e hp;subst j;have hD:=X3 Q;have q:E.getD k (a6 t)=E[k]:=by simp[H]
      rw[q];exact⟨F,o+(k*sz t+a),c'.drop a,rfl,by rw[<- Nat.add_assoc]; exact TD d a,(hD.take a).2⟩
   grind
  grind
 ·rename_i fr t x;simp only[oi,pj] at h;obtain⟨rfl,rfl⟩:=h;obtain⟨b,o,ds,g,m,d,Q⟩:=v;simp only[List.cons.injEq,and_true] at g
  grind[X3]
 grind
def Pg:AV->Nat->Option AV
 | .ptr id off,k=>some (.ptr id (off+k))
 | .pel id ver i s off,k=>some (.pel id ver i s (off+k))
 | .d fr (.pt t) x,k=>Dy fr t x k
 | _,_=>none
theorem q0t{X:Cx}{G:Gh}(_:Sat X G){p r:AV}{u:Value}{k:Nat}{cs:List AV}{l:List Nat}(m:P7 G.o p=some (cs,l))(h:Pg p k=some r)(g:AVR G p u):∃b o,u=.pointer (some ⟨b,o,none⟩)/\AVR G r (.pointer (some ⟨b,o+k,none⟩)):=by
 unfold Pg at h;split at h
 ·simp at h; subst h;obtain⟨E,b,q,rfl⟩:=g;exact⟨b,_,rfl,E,b,q,rfl⟩
 ·rename_i id H i s T;simp at h; subst h;obtain⟨V,Q,j,w,e,a,d,F,P⟩:=g;simp only[P7,d,ce] at m;split at m
  ·rename_i v;simp only[ba] at v;have f:=nb v.1;obtain⟨b,o,n,c,y,rfl⟩:=P f;exact⟨b,_,rfl,rfl,Q,j,w,e,a,d,F,fun _=>⟨b,o,n,c,y,by grind⟩⟩
  grind
 ·rename_i W t x;obtain⟨b,o,ds,d,q,z,Y⟩:=g;simp only[List.cons.injEq,and_true] at d
  grind[n0C]
 grind
def HV(n:Int)(len:Nat):Prop:=0<=n/\n < (len:Int)
def HW(Γ:m3)(o:List (Nat×Ob))(T:TypeId)(v:AV)(n:Int):Option (Prop×AV×List Nat):=match v,a8 Γ T with
 | .d fr (.sl t) xs,some ⟨_,_,_,.sl E,_⟩=>match a8 Γ E with
   | some te=>bif Nat.beq te.size (sz t) then some (HV n xs.length,.d fr (.pt t) (xs.getD n.toNat (a6 t)),[]) else none
   | none=>none
 | .os id ver,some ⟨_,_,_,.sl E,_⟩=>match a8 Γ E,a8 o id with
   | some te,some (.arr _ _ t xs ver')=>bif Nat.beq ver ver'&&Nat.beq te.size (sz t) then some (HV n xs.length,.pel id ver n.toNat (sz t) 0,[id]) else none
   | _,_=>none
 | .ptr id off,some ⟨_,_,_,.arr m E,_⟩=>match a8 Γ E with
   | some te=>some (HV n m,.ptr id (off+n.toNat*te.size),[])
   | none=>none
 | .og id,some ⟨_,_,_,.sl E,_⟩=>match a8 Γ E,a8 o id with
   | some te,some (.grd _ _ _ _ xs _)=>bif Nat.beq te.size 1 then some (HV n xs.length,.gel id n.toNat,[id]) else none
   | _,_=>none
 | _,_=>none
theorem n0b{P:Program}{n:Nat}{e:x9}{ty:TypeId}{w:World}{T E s y m k b o:Nat}{z:Value}{x ix:Operand}{t:IntKind}(h:P.underlying T=some (.array m E))[i:Info P E s y z](u:ev e x=some (.pointer (some ⟨b,o,none⟩)))(hi:ev e ix=some (.int t (k:Int)))(H:k<m) :
  B7 P n e (.indexAddr T x ix) ty w (.pointer (some ⟨b,o+k*s,none⟩)) w:=by
 intro a v q j g l;obtain⟨r,c,F,G,Q⟩:=i.get;have d:(Addr.mk b o none).add (k*s)=⟨b,o+k*s,none⟩:=by
  unfold Addr.add;split
  ·grind
  ·rfl
 have f:0<=(k:Int)/\(k:Int) < (m:Int):=oo;simp only[execOp,l.ev u,l.ev hi];simp only[Instr.indexAt,asIntOf,Sem.run_bind,run_underlying h,Instr.sureAddr,Result.andThen,Sem.run_pure,f,and_self,if_true,P5 w c,F,Int.toNat_natCast,d]
theorem t0w{X:Cx}{G:Gh}{a:Act}{st:St}{Γ:m3}(j:s6 X.P Γ)(S:Sat X G)(hE:EnvR X.n G st.e a){T ty:TypeId}{x ix:Operand}{v r:AV}{n:Int}{f:Bool}{k:IntKind}{q:Prop}{l:List Nat}
  (Y:AVR G v (a.eval x)) (hn:AVR G (.d f (.int k) n) (a.eval ix)) (h:HW Γ G.o T v n=some (q,r,l)) (F:q):I0 X G a (.indexAddr T x ix) ty r:=by
 have g:ev (y9 a [x,ix]) x=some (a.eval x):=D9 (by simp);have w:ev (y9 a [x,ix]) ix=some (a.eval ix):=D9 (by simp);rw[(A5 hn).1] at w;unfold HW at h;split at h
 ·rename_i fr t xs s0 y0 z0 E H Q;split at h
  ·rename_i s u;rw[ce] at h;split at h
   ·rename_i y;have y:=nb y;simp only[oi,pj] at h;obtain⟨rfl,rfl,rfl⟩:=h
    haveI:X1 X.P T E:=⟨(j T _ Q).2.2.2.2.2⟩
    haveI:Info X.P E s.size s.bytes s.zero:=⟨(j E _ u).1⟩
    obtain⟨i,rfl⟩:=Int.eq_ofNat_of_zero_le F.1;have hi:i<xs.length:=by have:=F.2; omega
    obtain⟨p,aA,z,_⟩:=id Y;simp only[List.cons.injEq,and_true] at z;have W:=Y;rw[z] at W g;obtain⟨_,b,o,c,rfl,hb,aH,hR⟩:=RT.get W hi;refine v8 hE [x,ix] (Tr g w hi) ?_;simp only[Int.toNat_natCast,gq,List.getElem?_eq_getElem hi,Option.getD_some];exact⟨b,o+i*s.size,c,rfl,hb,by grind,hR⟩
   grind
  grind
 ·rename_i id aK s0 y0 z0 E H Q;split at h
  ·rename_i s T' fr t xs aF u V;rw[ce] at h;split at h
   ·rename_i y;simp only[ba] at y;have aB:=nb y.1;have aN:=nb y.2;clear y;subst aB;simp only[oi,pj] at h;obtain⟨rfl,rfl,rfl⟩:=h
    haveI:X1 X.P T E:=⟨(j T _ Q).2.2.2.2.2⟩
    haveI:Info X.P E s.size s.bytes s.zero:=⟨(j E _ u).1⟩
    obtain⟨i,rfl⟩:=Int.eq_ofNat_of_zero_le F.1;have hi:i<xs.length:=by have:=F.2; omega
    obtain⟨_,T1,aL,t1,aJ,aG,h1,h2,h3⟩:=Y;rw[V] at h1;cases h1;have hu:=h3 rfl;obtain⟨cs,hO,hA,aI⟩:=S.obs id _ V;rcases hO with ⟨_,hn,_⟩ | ⟨b,o,aA,cur,hb,z,_⟩
    ·omega
    ·rw[hu,z] at g;refine v8 hE [x,ix] (Tr g w hi) ?_;simp only[Int.toNat_natCast];exact⟨rfl,_,_,_,_,_,V,Nat.le_refl _,fun _=>⟨b,o,_,_,z,by grind⟩⟩
   grind
  grind
 ·rename_i id aM s0 y0 z0 m E H Q;split at h
  ·rename_i s u;simp only[oi,pj] at h;obtain⟨rfl,rfl,rfl⟩:=h
   haveI:Info X.P E s.size s.bytes s.zero:=⟨(j E _ u).1⟩
   obtain⟨i,rfl⟩:=Int.eq_ofNat_of_zero_le F.1;have hi:i<m:=by have:=F.2; omega
   obtain⟨aC,b,hb,z⟩:=Y;rw[z] at g;refine v8 hE [x,ix] (n0b (j T _ Q).2.2.2.2.2 g w hi) ?_;simp only[Int.toNat_natCast];exact⟨aC,b,hb,rfl⟩
  grind
 ·rename_i id s0 y0 z0 E H Q;split at h
  ·rename_i s T' Te fr t xs aD u V;rw[ce] at h;split at h
   ·rename_i y;have y:=nb y;simp only[oi,pj] at h;obtain⟨rfl,rfl,rfl⟩:=h
    haveI:X1 X.P T E:=⟨(j T _ Q).2.2.2.2.2⟩
    haveI:Info X.P E s.size s.bytes s.zero:=⟨(j E _ u).1⟩
    obtain⟨i,rfl⟩:=Int.eq_ofNat_of_zero_le F.1;have hi:i<xs.length:=by have:=F.2; omega
    obtain⟨_,_,hu⟩:=Y;obtain⟨vs,bs,hO,_,_⟩:=S.obs id _ V;rcases hO with ⟨_,hn,_⟩ | ⟨b,o,aA,cur,hb,z,_⟩
    ·omega
    ·rw[hu,z] at g;refine v8 hE [x,ix] (Tr g w hi) ?_;simp only[Int.toNat_natCast,y,Nat.mul_one];exact⟨⟨_,_,_,_,_,_,V⟩,b,o,_,_,z,rfl⟩
   grind
  grind
 grind
def Dz(cs:List AV)(o:Nat)(vs:List AV):List AV:=cs.take o++vs++cs.drop (o+vs.length)
theorem TH{G:Gh}{cs vs:List AV}{us a:List Value}{o:Nat}(h:AVRs G cs us)(k:AVRs G vs a)(_:o+vs.length<=cs.length):AVRs G (Dz cs o vs) (u6 us o a):=by
 unfold Dz u6;rw[k.len];exact AVRs.app (h.take _).2 (AVRs.app k (h.take o).1)
def X5(st:St)(p:Pa)(pl:List (Nat×Nat)):List AV->List (Nat×Operand)->Option (List AV)
 | cs,[]=>some cs
 | cs,(i,x) :: r=>match B8 pl i with
   | some (off,s)=>match rd st p x with
     | some v=>match AW v with
       | some vs=>bif Nat.beq vs.length s&&Nat.ble (off+vs.length) cs.length then X5 st p pl (Dz cs off vs) r else none
       | none=>none
     | none=>none
   | none=>none
theorem TJ:∀{us:List Value} {k:Nat},us.length=k->BG us k=true
 | [],0,_=>rfl
 | _ :: r,k+1,h=>TJ (us:=r) (by grind)
 | [],_+1,h=>by grind
 | _ :: _,0,h=>by grind
theorem TK{a:Act}{xs:List Operand}:∀{ps:List (Nat×Operand)},(∀q∈ps,q.2∈xs)->evp (y9 a xs) ps=some (ps.map fun q=>(q.1,a.eval q.2))
 | [],_=>rfl
 | (i,x) :: r,h=>by
   have d:=D9 (a:=a) (h (i,x) (by simp));have b:=TK (a:=a) (ps:=r) (fun q c=>h q (by grind))
   grind[evp]
theorem TL{n:Nat}{G:Gh}{a:Act}{st:St}{p:Pa}{pl:List (Nat×Nat)}(j:EnvR n G st.e a)(l:PathP p a):∀{ps:List (Nat×Operand)} {cs r:List AV} {us:List Value},X5 st p pl cs ps=some r->AVRs G cs us ->
  ∃ws,AU pl us (ps.map fun q=>(q.1,a.eval q.2))=some ws/\AVRs G r ws
 | [],cs,r,us,h,hA=>by simp[X5] at h; subst h; exact⟨us,rfl,hA⟩
 | (i,x) :: q,cs,r,us,h,hA=>by
   unfold X5 at h;split at h
   ·rename_i b s hi;split at h
    ·rename_i v u;split at h
     ·rename_i y f;rw[ce] at h;split at h
      ·rename_i g;simp only[ba] at g;have w:=nb g.1;have c:=Nat.le_of_ble_eq_true g.2;have o:=x8 j l u;obtain⟨m,_⟩:=HS f o;have k:=m.len;have d:=hA.len;obtain⟨ws,z,t⟩:=TL j l h (TH hA m c);refine⟨ws,?_,t⟩;simp only[List.map_cons];unfold AU;rw[U8] at hi;simp only[hi];have E:(BG (a.eval x).cells.toList s&&Nat.ble (b+s) us.length)=true:=by
        rw[ba];exact⟨TJ (by omega),Nat.ble_eq_true_of_le (by omega)⟩
       grind
      grind
     grind
    grind
   grind
end Go.Proofs.Xv
end
section
namespace Go.Proofs.Sv
open Go Go.RowKit
section
variable {P:Program} {n:Nat} {e:x9} {w:World} {Q:Exit->Act->World->Prop} {l:List Oper} {fuel:Nat} {listed:Array Bool} {S:World->Prop} {ops:Array Oper} {rest:List Oper}
 {d:Nat} {op:Op} {ty:TypeId} {pos:String} {after:Array Edge}
end
section
variable {P:Program} {ops:Array Oper} {Q:Exit->Act->World->Prop} {S:World->Prop} {st:Nat}
end
section
variable {P:Program} {n:Nat} {e:x9} {w:World} {Q:Exit->Act->World->Prop} {l:List Oper} {fuel:Nat} {listed:Array Bool} {S:World->Prop} {st:Nat}
 {d:Nat} {op:Op} {ty:TypeId} {pos:String} {after:Array Edge}
end
theorem Own.set{w w':World}{E s:Nat}{g g' n i c k o:Nat}{v:Value}{cs vs:List Value}(h:Own w E s (some g) v n cs)(d:v=.slice (some ⟨g',o,none⟩) i c)(r:k<n)(m:vs.length=s)(l:∀cur:Array Value,w.heap[g]?=some (.cells cur E (0,0))->w'.heap[g]?=some (.cells (u6 cur.toList (o+k*s) vs).toArray E (0,0))) :
  Own w' E s (some g) v n (u6 cs (k*s) vs):=by
 rcases h with ⟨h,_⟩ | ⟨b,o',cap,cur,hb,hv2,h1,h2,h3,h4,rfl⟩
 ·cases h
 ·cases hb;rw[d] at hv2;cases hv2;refine .inr ⟨g,o,c,_,rfl,d,l cur h1,h2,h3,?_,?_⟩
  ·have a:(k+1)*s<=c*s:=Nat.mul_le_mul_right s (by omega);rw[Nat.add_mul] at a;simp only[u6,List.size_toArray,List.length_append,List.length_take,List.length_drop,Array.length_toList];omega
  ·have a:(k+1)*s<=n*s:=Nat.mul_le_mul_right s (by omega);have f:n*s<=c*s:=Nat.mul_le_mul_right s h2;rw[Nat.add_mul] at a;have j:List.drop o (u6 cur.toList (o+k*s) vs)=u6 (cur.toList.drop o) (k*s) vs:=by
    unfold u6;rw[List.append_assoc,List.append_assoc,List.drop_append,List.drop_take,List.length_take,List.drop_drop,Array.length_toList];rw[show o+k*s-o=k*s by omega,show o-min (o+k*s) cur.size=0 by omega,List.drop_zero,Nat.add_assoc]
   show(List.drop o (u6 cur.toList (o+k*s) vs)).take (n*s)=_;rw[j];have q:(cur.toList.drop o).length=c*s:=by rw[List.length_drop,Array.length_toList]; omega
   generalize cur.toList.drop o=C at q;simp only[u6];have e:(List.take (k*s) C).length=k*s:=by rw[List.length_take]; omega
   rw[List.append_assoc,List.take_append,List.take_append,e,m,List.append_assoc];congr 1
   ·rw[List.take_of_length_le (by rw[e]; omega),List.take_take]; congr 1; omega
   ·congr 1
    ·rw[List.take_of_length_le (by omega)]
    ·rw[List.drop_take]; congr 1; omega
end Go.Proofs.Sv
end
section
namespace Go.Proofs.Sv
open Go
section
open Go.RowKit
variable {P:Program} {n:Nat} {e:x9} {w:World} {Q:Exit->Act->World->Prop} {ops:Array Oper} {rest:List Oper}
 {d:Nat} {ty:TypeId} {pos:String} {after:Array Edge}
end
end Go.Proofs.Sv
end
section
namespace Go.Proofs.Sv
open Go Go.RowKit
def OwnI(w:World)(E:TypeId)(g:Option Nat)(v:Value)(xs:List Int):Prop:=Own w E 1 g v xs.length (xs.map (Value.int .i64))/\∀x∈xs,J9 x
theorem OwnI.up{w w':World}{E:TypeId}{g:Option Nat}{v:Value}{xs:List Int}(h:OwnI w E g v xs)(k:Ext w w'):OwnI w' E g v xs:=⟨h.1.up k,h.2⟩
theorem OwnI.we{g':Option Nat}{w w':World}{E:TypeId}{g:Option Nat}{v:Value}{xs:List Int}(h:OwnI w E g v xs)(k:WE g' w w')(a:∀i,g'=some i->g≠some i):OwnI w' E g v xs:=⟨h.1.we k a,h.2⟩
theorem OwnI.lt{w:World}{E:TypeId}{g:Option Nat}{v:Value}{xs:List Int}(h:OwnI w E g v xs):∀k,g=some k->k<w.heap.size:=h.1.lt
theorem OwnI.len{w:World}{E:TypeId}{g:Option Nat}{v:Value}{xs:List Int}(h:OwnI w E g v xs):∃p c,v=.slice p xs.length c:=h.1.len
theorem All.ints{lo hi:Nat}{w:World}:∀{cs:List Value} {xs:List Int},All lo hi w cs xs->cs=xs.map (Value.int .i64)
 | _,[],h=>h
 | _,x :: r,h=>by
   obtain⟨c,d,rfl,b,a⟩:=h;rw[b.1,All.ints a]; rfl
theorem SlR.src{lo hi:Nat}{w:World}{v:Value}{xs:List Int}(h:SlR lo hi w v xs):∃p cap b o,v=.slice p xs.length cap/\(xs.length=0∨p=some ⟨b,o,none⟩)/\At w b o (xs.map (Value.int .i64)):=by
 obtain⟨p,cap,rfl,_,_,a⟩:=h;rcases a with rfl | ⟨b,o,cs,rfl,_,_,hat,hall⟩
 ·exact⟨p,cap,0,0,rfl,.inl rfl,fun i u c=>by simp at c⟩
 ·rw[hall.ints] at hat;exact⟨_,cap,b,o,rfl,.inr rfl,hat⟩
theorem WE.then{g g':Option Nat}{w a b:World}(h:WE g w a)(k:WE g' a b)(d:∀i,g'=some i->w.heap.size<=i∨g=some i):WE g w b :=
 ⟨k.os.trans h.os,k.tape.trans h.tape,k.output.trans h.output,Nat.le_trans h.size k.size,fun i hi c=>(k.block i (Nat.lt_of_lt_of_le hi h.size) (fun e=>by
   grind)).trans (h.block i hi c)⟩
section
variable {P:Program} {n:Nat} {e:x9} {w:World} {ty:TypeId}
end
theorem At.tail{w:World}{b o:Nat}{c:Value}{cs:List Value}(h:At w b o (c :: cs)):At w b (o+1) cs:=by
 intro i u a;have:=h (i+1) u (by grind)
 grind
theorem SlR.tail{lo hi:Nat}{w:World}{p:Option Addr}{e a:Nat}{xs:List Int}(h:SlR lo hi w (.slice p e a) xs)(q:1<=e):SlR lo hi w (.slice (if a=1 then p else p.map (·.add (1*1))) (e-1) (a-1)) xs.tail:=by
 obtain⟨t,j,n,l,k,g⟩:=h;cases n;cases xs with
 | nil=>grind
 | cons x r =>
   refine⟨if a=1 then p else p.map (·.add (1*1)),a-1,rfl,by grind,by omega,?_⟩;by_cases s:a=1
   ·grind
   ·right;rcases g with g | ⟨b,o,cs,rfl,hlo,hhi,hat,hall⟩
    ·cases g
    ·obtain⟨c,d,rfl,i,m⟩:=hall;have f:=i.1;subst f;refine⟨b,o+1,d,?_,hlo,hhi,hat.tail,m⟩
     grind[Addr.add]
end Go.Proofs.Sv
end
section
namespace Go.Proofs.Xv
open Go Go.RowKit Go.Proofs.Sv
def F0U:IntKind->IntKind->Int->Option Int
 | .i64,.i64,n=>some n
 | .u8,.u8,n=>some n
 | .u8,.i64,n=>some n
 | .i64,.u8,n=>some (n % 256)
 | _,_,_=>none
def TM(k k':IntKind)(n:Int):Prop×Int:=match F0U k k' n with
 | some m=>(True,m)
 | none=>(CC k' n,n)
def FY(a b:Int):Int:=min a b
def FZ(a b:Int):Int:=max a b
def Mb(l h:Int)(n:Nat):Prop:=0<=l/\l<=h/\h<=(n:Int)
def M5(st:St)(p:Pa):Option Operand->Option (Option Int)
 | none=>some none
 | some x=>match rd st p x with
   | some (.d _ (.int _) n)=>some (some n)
   | _=>none
def Ga{α:Type}(xs:List α):Option Int->Option Int->List α
 | none,none=>xs
 | some l,none=>xs.drop l.toNat
 | none,some h=>xs.take h.toNat
 | some l,some h=>(xs.take h.toNat).drop l.toNat
def BJ:Nat->Nat->Nat->List (Nat×Nat)
 | 0,_,_=>[]
 | m+1,k,s=>(k*s,s) :: BJ m (k+1) s
theorem l0E{s:Nat}:∀{m k i:Nat} {q:Nat×Nat},(BJ m k s)[i]?=some q->q=((k+i)*s,s)
 | 0,k,i,q,h=>by grind[BJ]
 | m+1,k,0,q,h=>by grind[BJ,List.getElem?_cons_zero,oi]
 | m+1,k,i+1,q,h=>by
   simp only[BJ,List.getElem?_cons_succ] at h;have:=l0E h
   grind
theorem j0S{P:Program}{n:Nat}{e:x9}{ty:TypeId}{w:World}{T E s y k t m:Nat}{z H:Value}{b:List (Nat×Operand)}{vs:List (Nat×Value)}{cs:List Value}(G:P.underlying T=some (.array m E))[i:Info P T s y z][j:Info P E k t H](F:evp e b=some vs)(v:AU (BJ m 0 k) z.cells.toList vs=some cs) :
  B7 P n e (.build T b.toArray) ty w (.agg cs.toArray) w:=by
 intro a Y r l g V;obtain⟨Q,f,h2,h3,W⟩:=i.get;obtain⟨q,d,o,_,_⟩:=j.get;have h:=OO (BJ m 0 k) vs z.cells.toList cs v;have c:=Tu (fun i:Nat=>(BJ m 0 k)[i]?) (fun i:Nat=>some (i*k,k)) vs _ _ (fun i p X=>by rw[l0E X,Nat.zero_add]) h;have u:b.toArray.map (fun(i,x)=>(i,a.eval x))=vs.toArray:=by rw[<- Agree.evp V F]; simp
 simp only[execOp,u];simp only[Instr.build,Sem.run_bind,OM w f W,Result.andThen,run_underlying G,P5 w d,o];rw[show z.cells=z.cells.toList.toArray by simp];simp only[c];rfl
def TN(ti:TI)(cs:List AV)(f:Nat):Option AV:=match ti.kd with
 | .agg pl _ ag=>match B8 pl f,B8 ag f with
   | some (off,s),some true=>bif Nat.ble (off+s) cs.length then some (.agg ((cs.drop off).take s)) else none
   | some (off,_),some false=>B8 cs off
   | _,_=>none
 | _=>none
def C6(Γ:m3)(st:St)(p:Pa):Op->Option (Prop×AV×List Nat)
 | .move x | .assign x=>match rd st p x with
   | some a=>some (True,a,[])
   | none=>none
 | .nilCheck x=>match rd st p x with
   | some v=>match P7 st.o v with
     | some (_,l)=>some (AX st.o v,v,l)
     | none=>none
   | none=>none
 | .pick c a b=>match c with
   | .tmp s=>match rd st p (.tmp s),rd st ((s,true) :: p) a,rd st ((s,false) :: p) b with
     | some (.d _ .bool x),some (.d _ .bool y),some (.d _ .bool z)=>some (True,.d true .bool (TE a b x y z),[])
     | _,_,_=>none
   | _=>none
 | .binOp op T x y _=>match rd st p x,rd st p y with
   | some u,some v=>match Ma (a8 Γ T) op u v with
     | some (q,r)=>some (q,r,[])
     | none=>none
   | _,_=>none
 | .unOp .not _ x=>match rd st p x with
   | some (.d _ .bool b)=>some (True,.d true .bool (!b),[])
   | _=>none
 | .unOp .neg _ x=>match rd st p x with
   | some (.d _ (.int .i64) n)=>some (CC .i64 (-n),.d true (.int .i64) (-n),[])
   | _=>none
 | .convert S T x=>match rd st p x,a8 Γ S,a8 Γ T with
   | some (.d _ (.int k) n),some ⟨_,_,_,.int _,_⟩,some ⟨_,_,_,.int k',_⟩=>match TM k k' n with
     | (q,m)=>some (q,.d true (.int k') m,[])
   | some (.os id ver),some ⟨_,_,_,.sl E,_⟩,some ⟨_,_,_,.str,_⟩=>match a8 st.o id,a8 Γ E with
     | some (.arr _ _ (.int .u8) xs ver'),some ⟨_,_,_,.int .u8,_⟩=>bif Nat.beq ver ver' then some (0<xs.length,.d true .str (strOfNums xs),[id]) else none
     | _,_=>none
   | _,_,_=>none
 | .fieldAddr T x f=>match rd st p x,a8 Γ T with
   | some v,some ⟨_,_,_,.agg pl _ _,_⟩=>match B8 pl f,P7 st.o v with
     | some (off,_),some (_,l)=>match Pg v off with
       | some r=>some (True,r,l)
       | none=>none
     | _,_=>none
   | _,_=>none
 | .load T x=>match rd st p x,a8 Γ T with
   | some v,some ti=>match P7 st.o v with
     | some (cs,l)=>match HU ti cs with
       | some r=>some (AX st.o v,r,l)
       | none=>none
     | none=>none
   | _,_=>none
 | .indexAddr T x i=>match rd st p x,rd st p i with
   | some v,some (.d _ (.int _) n)=>HW Γ st.o T v n
   | _,_=>none
 | .index T x i=>match rd st p x,rd st p i,a8 Γ T with
   | some (.d _ .str s),some (.d _ (.int _) n),some ⟨_,_,_,.str,_⟩=>some (HV n s.size,.d true (.int .u8) (B3 s n.toNat),[])
   | _,_,_=>none
 | .extract x i=>match rd st p x with
   | some (.tup l)=>match B8 l i with
     | some r=>some (True,r,[])
     | none=>none
   | _=>none
 | .field T x f=>match rd st p x,a8 Γ T with
   | some (.agg cs),some ti=>match TN ti cs f with
     | some r=>some (True,r,[])
     | none=>none
   | _,_=>none
 | .makeFunc (.func f) first cap=>match first.toList,H9 st p cap.toList with
   | [],some l=>some (True,.fn f l,[])
   | _,_=>none
 | .build T parts=>match a8 Γ T with
   | some ⟨_,_,z,.agg pl _ _,_⟩=>match X4 z.cells.toList with
     | some cs=>match X5 st p pl cs parts.toList with
       | some r=>some (True,.agg r,[])
       | none=>none
     | none=>none
   | some ⟨_,_,z,.arr m E,_⟩=>match a8 Γ E,X4 z.cells.toList with
     | some te,some cs=>match X5 st p (BJ m 0 te.size) cs parts.toList with
       | some r=>some (True,.agg r,[])
       | none=>none
     | _,_=>none
   | _=>none
 | .slice T x l h none=>match rd st p x,M5 st p l,M5 st p h,a8 Γ T with
   | some (.d fr (.sl t) xs),some lo,some hi,some ⟨_,_,_,.sl E,_⟩=>match a8 Γ E with
     | some te=>bif Nat.beq te.size (sz t) then some (Mb (lo.getD 0) (hi.getD xs.length) xs.length,.d fr (.sl t) (Ga xs lo hi),[]) else none
     | none=>none
   | _,_,_,_=>none
 | .call ⟨.builtin .len,xs,Ts⟩=>match H9 st p xs.toList,Ts.toList with
   | some [.d _ (.sl _) l],[T]=>match a8 Γ T with
     | some ⟨_,_,_,.sl _,_⟩=>some (True,.d true (.int .i64) (l.length:Int),[])
     | _=>none
   | some [.os id ver],[T]=>match a8 Γ T,a8 st.o id with
     | some ⟨_,_,_,.sl _,_⟩,some (.arr _ _ _ l ver')=>bif Nat.beq ver ver' then some (True,.d true (.int .i64) (l.length:Int),[id]) else none
     | _,_=>none
   | some [.v (.slice none 0 0)],[T]=>match a8 Γ T with
     | some ⟨_,_,_,.sl _,_⟩=>some (True,.d true (.int .i64) (0:Int),[])
     | _=>none
   | some [.d _ .str s],[T]=>match a8 Γ T with
     | some ⟨_,_,_,.str,_⟩=>some (True,.d true (.int .i64) (s.size:Int),[])
     | _=>none
   | _,_=>none
 | .call ⟨.builtin .min,xs,_⟩=>match H9 st p xs.toList with
   | some [.d _ (.int .i64) a,.d _ (.int .i64) b]=>some (True,.d true (.int .i64) (FY a b),[])
   | _=>none
 | .call ⟨.builtin .max,xs,_⟩=>match H9 st p xs.toList with
   | some [.d _ (.int .i64) a,.d _ (.int .i64) b]=>some (True,.d true (.int .i64) (FZ a b),[])
   | _=>none
 | _=>none
theorem AllR.takeD{a:Type}{R:List Value->a->Prop}{s:Nat}(b:∀c x,R c x->c.length=s):∀{cs:List Value} {xs:List a} (k:Nat),AllR R cs xs->AllR R (cs.take (k*s)) (xs.take k)/\AllR R (cs.drop (k*s)) (xs.drop k)
 | cs,xs,0,h=>by simpa using (⟨rfl,h⟩:AllR R [] ([]:List a)/\AllR R cs xs)
 | cs,[],k+1,h=>by rw[show cs=[] from h]; simpa using (⟨rfl,rfl⟩:AllR R [] ([]:List a)/\AllR R [] ([]:List a))
 | _,x :: r,k+1,⟨c,d,e,h1,h2⟩=>by
   subst e;have i:=b _ _ h1;have g:(k+1)*s=c.length+k*s:=by rw[i,Nat.add_mul]; omega
   rw[g,List.take_length_add_append,List.drop_length_add_append];have f:=AllR.takeD b k h2;exact⟨⟨c,_,rfl,h1,f.1⟩,f.2⟩
theorem AllR.cut{a:Type}{R:List Value->a->Prop}{s:Nat}(b:∀c x,R c x->c.length=s){cs:List Value}{xs:List a}{l h:Nat}(d:AllR R cs xs)(_:l<=h)(_:h<=xs.length):AllR R ((cs.take (h*s)).drop (l*s)) ((xs.take h).drop l) :=
 (AllR.takeD b l (AllR.takeD b h d).1).2
theorem b7{n:Int}(h : -9223372036854775808<=n/\n<=9223372036854775807):lo .i64<=n/\n<=hi .i64:=h
theorem t0c{a b:Int}(h:J9 a)(k:J9 b):J9 (FY a b)/\J9 (FZ a b):=by grind[J9,FY,FZ]
theorem B0a(a b:Int):(if b<a then b else a)=FY a b:=by grind[FY]
theorem B0e(a b:Int):(if b > a then b else a)=FZ a b:=by grind[FZ]
section
variable {X:Cx} {G:Gh} {a:Act} {st:St} {Γ:m3} {p:Pa}
theorem Ph(c:EnvR X.n G st.e a)(b:PathP p a){o:Option Operand}{r:Option Int}(h:M5 st p o=some r):(o=none/\r=none)∨∃x n k,o=some x/\r=some n/\a.eval x=.int k n:=by
 unfold M5 at h;split at h
 ·grind
 ·rename_i x;split at h
  ·rename_i k n d;simp at h;exact .inr ⟨x,n,k,rfl,h.symm,(A5 (x8 c b d)).1⟩
  grind
theorem t0R{a:Type}(xs:List a)(lo hi:Option Int)(h:Mb (lo.getD 0) (hi.getD xs.length) xs.length):Ga xs lo hi=(xs.take (hi.getD xs.length).toNat).drop (lo.getD 0).toNat:=by
 cases lo <;> cases hi <;> simp[Ga]
theorem m0Z(H:s6 X.P Γ)(hE:EnvR X.n G st.e a)(hp:PathP p a){T E ty:TypeId}{s0 y0:Nat}{z0:Value}{aB:Ty}{x:Operand}{l h:Option Operand}{lo hi:Option Int}{fr:Bool}{t:Ty}{xs:List (c7 t)}{s:TI}
  (hT:a8 Γ T=some ⟨s0,y0,z0,.sl E,aB⟩) (aA:a8 Γ E=some s) (hs:s.size=sz t) (hx:AVR G (.d fr (.sl t) xs) (a.eval x)) (hl:M5 st p l=some lo) (hh:M5 st p h=some hi) (hq:Mb (lo.getD 0) (hi.getD xs.length) xs.length) :
  I0 X G a (.slice T x l h none) ty (.d fr (.sl t) (Ga xs lo hi)):=by
 obtain⟨pp,m,Q,aH,aF,h4⟩:=id hx;simp only[List.cons.injEq,and_true] at Q;have W:=(H T _ hT).2.2.2.2.2;have hI:Info X.P E s.size s.bytes s.zero:=⟨(H E _ aA).1⟩;obtain⟨aG,i,Y,h3,h5⟩:=hI.get;rw[t0R xs lo hi hq];obtain⟨q1,q2,q3⟩:=hq;have aD:(∃n k,l=some n/\a.eval n=.int k (lo.getD 0))∨(l=none/\lo.getD 0=0):=by
  rcases Ph hE hp hl with ⟨q,u⟩ | ⟨y,n,k,q,u,e3⟩
  ·grind
  ·grind
 have aC:(∃n k,h=some n/\a.eval n=.int k (hi.getD xs.length))∨(h=none/\hi.getD xs.length=(xs.length:Int)):=by
  rcases Ph hE hp hh with ⟨q,u⟩ | ⟨y,n,k,q,u,e3⟩
  ·grind
  ·grind
 generalize lo.getD 0=l0 at *
 generalize hi.getD xs.length=h0 at *
 have r1:∀(y:Nat) (f:BoundsCode) (k:IntKind),h0<=y->(Instr.sliceBound (.int k h0) y f).run X.P G.w=.ok h0.toNat G.w:=fun y f k z=>run_sliceBound (P:=X.P) (w:=G.w) k h0 y f (by omega) z;have r2:∀(y:Nat) (f:BoundsCode) (k:IntKind),l0<=y->(Instr.sliceBound (.int k l0) y f).run X.P G.w=.ok l0.toNat G.w:=fun y f k z=>run_sliceBound (P:=X.P) (w:=G.w) k l0 y f q1 z;have F:∀V v j g,(execOp a.eval ⟨V,.slice T x l h none,ty,v,j,g⟩).run X.P G.w=.ok (.value (.slice (if m=l0.toNat then pp else pp.map (·.add (l0.toNat*s.size))) (h0.toNat-l0.toNat) (m-l0.toNat))) G.w:=by
  intro V v j g;rcases aD with ⟨n1,k1,rfl,q⟩ | ⟨rfl,q⟩ <;> rcases aC with ⟨n2,k2,rfl,u⟩ | ⟨rfl,u⟩
  ·simp[execOp,Q,Instr.sliceAt,Instr.slice,Instr.sliceBounds,run_underlying W,Result.andThen,P5 G.w i,Y,q,u,r1 m .sliceAcap k2 (by omega),r2 h0.toNat .sliceB k1 (by omega)]
  ·have:h0.toNat=xs.length:=by omega
   simp[execOp,Q,Instr.sliceAt,Instr.slice,Instr.sliceBounds,run_underlying W,Result.andThen,P5 G.w i,Y,q,this,r2 xs.length .sliceB k1 (by omega)]
  ·simp[execOp,Q,Instr.sliceAt,Instr.slice,Instr.sliceBounds,run_underlying W,Result.andThen,P5 G.w i,Y,q,u,r1 m .sliceAcap k2 (by omega)]
  ·have:h0.toNat=xs.length:=by omega
   simp[execOp,Q,Instr.sliceAt,Instr.slice,Instr.sliceBounds,run_underlying W,Result.andThen,P5 G.w i,Y,q,this]
 refine⟨_,F,?_⟩;have r:((xs.take h0.toNat).drop l0.toNat).length=h0.toNat-l0.toNat:=by rw[List.length_drop,List.length_take]; omega
 rw[<- r];refine⟨_,_,rfl,by rw[r]; omega,by omega,?_⟩;by_cases hc:m=l0.toNat
 ·grind
 ·rcases h4 with h4 | ⟨b,o,ds,rfl,hb,hat,hall⟩
  ·grind
  ·right;have hR:=fun(c:List Value) (y:c7 t) (z:RT (rg G fr) G.w t c y)=>RT.len z;refine⟨b,o+l0.toNat*s.size,(ds.take (h0.toNat*sz t)).drop (l0.toNat*sz t),?_,hb,?_,?_⟩
   ·grind[Addr.add]
   ·grind[TD,TC]
   grind[AllR.cut]
theorem n0s(j:EnvR X.n G st.e a){T ty:TypeId}{x ix:Operand}{s:ByteArray}{n:Int}{f g:Bool}{k:IntKind}(o:X.P.underlying T=some .string)(m:AVR G (.d f .str s) (a.eval x))(l:AVR G (.d g (.int k) n) (a.eval ix))(h:HV n s.size) :
  I0 X G a (.index T x ix) ty (.d true (.int .u8) (B3 s n.toNat)):=by
 haveI:LU X.P T:=⟨o⟩
 have c:ev (y9 a [x,ix]) x=some (a.eval x):=D9 (by simp);have b:ev (y9 a [x,ix]) ix=some (a.eval ix):=D9 (by simp);rw[(Pe m).1] at c;rw[(A5 l).1] at b;obtain⟨i,rfl⟩:=Int.eq_ofNat_of_zero_le h.1;have hi:i<s.size:=by have:=h.2; omega
 exact v8 j [x,ix] (q0h c b hi) ⟨rfl,u0a _ _,u0b _ _⟩
theorem q0G(_:EnvR X.n G st.e a){S T ty:TypeId}{x:Operand}{f:Bool}{k u b:IntKind}{n m:Int}(y:X.P.underlying S=some (.int u))(t:X.P.underlying T=some (.int b))(s:AVR G (.d f (.int k) n) (a.eval x)){q:Prop}(h:TM k b n=(q,m))(j:q) :
  I0 X G a (.convert S T x) ty (.d true (.int b) m):=by
 obtain⟨w,c⟩:=A5 s;have l:b.wrap n=m/\lo b<=m/\m<=hi b:=by
  unfold TM at h;split at h
  case h_2 =>
   simp only[pj] at h;obtain⟨rfl,rfl⟩:=h;exact⟨Pf _ j,j⟩
  rename_i z r;simp only[pj] at h;obtain⟨_,rfl⟩:=h;have h:=r;unfold F0U at h;split at h <;> simp only[oi,reduceCtorEq] at h
  ·subst h; exact⟨IntWalk.i64_in _ c,c⟩
  ·subst h; exact⟨IntWalk.u8_in _ c,c⟩
  ·grind[lo,hi,IntWalk.i64_in]
  ·grind[lo,hi,IntKind.wrap_u8]
 refine⟨.int b m,fun v o i g=>?_,rfl,l.2⟩;rw[<- l.1];simp[execOp,w,convert,run_underlying t,run_underlying y,Conv.intToInt,Result.andThen]
theorem m0V(S:Sat X G)(hE:EnvR X.n G st.e a){s T E ty T':TypeId}{x:Operand}{id ver:Nat}{fr:Bool}{xs:List Int}(hS:X.P.underlying s=some (.slice E))(l:X.P.underlying E=some (.int .u8))(H:X.P.underlying T=some .string)(u:AVR G (.os id ver) (a.eval x))(y:a8 G.o id=some (.arr T' fr (.int .u8) xs ver))(hq:0<xs.length) :
  I0 X G a (.convert s T x) ty (.d true .str (strOfNums xs)):=by
 obtain⟨_,T2,Q,t2,F,v,z,g2,Y⟩:=u;rw[y] at z;cases z;have u:=Y rfl;obtain⟨i,hO,W,_⟩:=S.obs id _ y;have f:∀{xs:List Int} {i:List Value},AllR (RT (rg G fr) G.w (.int .u8)) i xs->i=xs.map (Value.int .u8):=by
  intro xs
  induction xs with
  | nil=>intro i h; exact h
  | cons x r V =>
    rintro i ⟨c,d,e,q,m⟩;rw[e,q.1,V m]; rfl
 have f:=f W;subst f
 haveI:X1 X.P s E:=⟨hS⟩
 haveI:Tv X.P E:=⟨l⟩
 haveI:LU X.P T:=⟨H⟩
 rcases hO with ⟨_,h0,_⟩ | ⟨b,o,cap,cur,hb,hv,q,m,h3,h4,h5⟩
 ·omega
 ·have t:Own G.w T' 1 (some b) (G.ρ id) xs.length (xs.map (Value.int .u8)):=.inr ⟨b,o,cap,cur,rfl,hv,q,m,h3,h4,h5⟩;obtain⟨o2,g,e2,j⟩:=t.at;have k:ev (y9 a [x]) x=some (.slice (some ⟨b,o2,none⟩) xs.length g):=by grind[D9]
  refine v8 hE [x] (q0f k rfl j) ⟨rfl,?_⟩;rw[strOfNums_size];have:cap<=9223372036854775807:=h3;omega
theorem h0V(i:s6 X.P Γ)(S:Sat X G)(H:EnvR X.n G st.e a){T ty:TypeId}{x:Operand}{f c y u E:Nat}{F:Value}{g:Ty}{pl:List (Nat×Nat)}{m:Bool}{d:List Bool}{v r:AV}{cs:List AV}{l:List Nat}
  (w:a8 Γ T=some ⟨y,u,F,.agg pl m d,g⟩) (j:B8 pl f=some (c,E)) (t:AVR G v (a.eval x)) (s:P7 G.o v=some (cs,l)) (k:Pg v c=some r):I0 X G a (.fieldAddr T x f) ty r:=by
 obtain⟨b,o,Q,q⟩:=q0t S s k t;have z:=(i T _ w).2.2.2.2.2.2.2.1;rw[U8] at j
 haveI:u0x X.P T f c:=⟨by have:=g0n z j; simpa using this⟩
 have h:ev (y9 a [x]) x=some (.pointer (some ⟨b,o,none⟩)):=by grind[D9]
 exact v8 H [x] (i0o h) q
theorem l0y{P:Program}{w:World}{T:TypeId}{i:TypeInfo}{xs:Array Value}{a:Nat}(c:Al P T=true)(hi:P.info? T=some i):(part T xs a).run P w=.ok (.agg (xs.extract a (a+i.size))) w:=by
 unfold Al at c;split at c
 ·rename_i b;simp[part,Go.isAgg,run_underlying b,P5 w hi,Result.andThen]
 ·rename_i b;simp[part,Go.isAgg,run_underlying b,P5 w hi,Result.andThen]
 grind
theorem l0x{P:Program}{w:World}{T:TypeId}{xs:Array Value}{a:Nat}{v:Value}(b:P4 P T=true)(c:xs[a]?=some v):(part T xs a).run P w=.ok v w:=by
 unfold P4 at b;cases hu:P.underlying T with
 | none=>grind
 | some d=>cases d <;> simp[hu] at b <;> simp[part,Go.isAgg,run_underlying hu,c]
theorem n0x(hE:EnvR X.n G st.e a){T ty:TypeId}{Y:TI}{x:Operand}{f:Nat}{cs:List AV}{r:AV}(hT:FV X.P T Y)(hx:AVR G (.agg cs) (a.eval x))(h:TN Y cs f=some r):I0 X G a (.field T x f) ty r:=by
 obtain⟨_,_,_,_,hk⟩:=hT;obtain⟨t,eu,hA⟩:=hx;unfold TN at h;split at h
 ·rename_i pl e ag Q;rw[Q] at hk;obtain⟨_,w,h3,_,_,H⟩:=hk;unfold HN at w;unfold LW at h3;unfold TA at H;split at w
  ·rename_i E V;simp only[V,oi] at w h3 H;have q:∀{d s:Nat} {b:Bool},B8 pl f=some (d,s)->B8 ag f=some b->∃c i,E[f]?=some c/\X.P.info? c.type=some i/\d=c.offset/\s=i.size/\Al X.P c.type=b/\P4 X.P c.type=!b:=by
    intro d s b j l;rw[U8] at j l;rw[<- w,List.getElem?_map] at j;have g3:(E.toList.map fun f=>(Al X.P f.type,P4 X.P f.type))[f]?=some (b,!b):=by rw[H,List.getElem?_map,l]; rfl
    rw[List.getElem?_map] at g3;cases m:E.toList[f]? with
    | none=>rw[m] at j; cases j
    | some c =>
      grind
   have o:ev (y9 a [x]) x=some (.agg t.toArray):=by grind[D9]
   split at h
   ·rename_i d s j l;obtain⟨c,i,m,hi,rfl,rfl,z,_⟩:=q j l;rw[ce] at h;split at h
    ·simp only[oi] at h; subst h;refine v8 hE [x] (v:=.agg (t.toArray.extract c.offset (c.offset+i.size))) ?_ ⟨(t.drop c.offset).take i.size,?_,?_⟩
     ·intro ac W y k g F;simp only[execOp,F.ev o];simp[Instr.field,run_underlying V,m,asAgg,l0y z hi]
     ·grind
     ·exact((hA.take c.offset).2.take i.size).1
    grind
   ·rename_i d s j l;obtain⟨c,i,m,hi,rfl,rfl,_,z⟩:=q j l;rw[U8] at h;obtain⟨u,aA,hr⟩:=hA.get h;refine v8 hE [x] (v:=u) ?_ hr;intro ac W y k g F;simp only[execOp,F.ev o];simp[Instr.field,run_underlying V,m,asAgg,l0x z (show t.toArray[c.offset]?=some u by grind)]
   grind
  grind
 grind
theorem m0w(h:s6 X.P Γ)(l:EnvR X.n G st.e a)(x:PathP p a){T ty:TypeId}{k j:Nat}{g:Value}{d:Ty}{pl:List (Nat×Nat)}{m:Bool}{c:List Bool}{b:Array (Nat×Operand)}{cs r:List AV}
  (t:a8 Γ T=some ⟨k,j,g,.agg pl m c,d⟩) (hz:X4 g.cells.toList=some cs) (s:X5 st p pl cs b.toList=some r):I0 X G a (.build T b) ty (.agg r):=by
 obtain⟨o,y,v⟩:=TL l x s (HR (G:=G) hz);have f:=(h T _ t)
 haveI:Info X.P T k j g:=⟨f.1⟩
 haveI:p0K X.P T pl:=⟨f.2.2.2.2.2.1,f.2.2.2.2.2.2.1⟩
 have z:=TK (a:=a) (xs:=b.toList.map (·.2)) (ps:=b.toList) (fun q u=>List.mem_map_of_mem u);have i:=q0j (P:=X.P) (T:=T) (n:=X.n) (w:=G.w) (ty:=ty) z y;rw[Array.toArray_toList] at i;exact v8 l _ i ⟨o,rfl,v⟩
theorem i0z(c:s6 X.P Γ)(i:EnvR X.n G st.e a)(x:PathP p a){T E ty:TypeId}{o k m:Nat}{h:Value}{g:Ty}{d:TI}{b:Array (Nat×Operand)}{cs r:List AV}
  (l:a8 Γ T=some ⟨o,k,h,.arr m E,g⟩) (f:a8 Γ E=some d) (hz:X4 h.cells.toList=some cs) (z:X5 st p (BJ m 0 d.size) cs b.toList=some r):I0 X G a (.build T b) ty (.agg r):=by
 obtain⟨y,t,u⟩:=TL i x z (HR (G:=G) hz)
 haveI:Info X.P T o k h:=⟨(c T _ l).1⟩
 haveI:Info X.P E d.size d.bytes d.zero:=⟨(c E _ f).1⟩
 have v:=TK (a:=a) (xs:=b.toList.map (·.2)) (ps:=b.toList) (fun q s=>List.mem_map_of_mem s);have j:=j0S (P:=X.P) (T:=T) (n:=X.n) (w:=G.w) (ty:=ty) (c T _ l).2.2.2.2.2 v t;rw[Array.toArray_toList] at j;exact v8 i _ j ⟨y,rfl,u⟩
theorem i0u(d:EnvR X.n G st.e a)(k:PathP p a){f:FuncId}{first b:Array Operand}{ty:TypeId}{l:List AV}(r:first.toList=[])(q:H9 st p b.toList=some l):I0 X G a (.makeFunc (.func f) first b) ty (.fn f l):=by
 have o:=Am d k q;refine⟨.func (.func f) #[] (b.toList.map a.eval).toArray,fun m h c g=>?_,_,rfl,o⟩;have i:first=#[]:=by cases first; simp_all
 have j:b.map a.eval=(b.toList.map a.eval).toArray:=by grind
 subst i;simp only[execOp,Instr.makeFunc,j];simp
theorem z0R{xs:Array Operand}{u:Value}(h:xs.toList.map a.eval=[u]):xs.map a.eval=#[u]:=by
 grind
theorem TO{T ty:TypeId}{E:TypeId}{xs:Array Operand}{b:Array TypeId}{j:Option Addr}{m c:Nat}(o:X.P.underlying T=some (.slice E))(l:xs.toList.map a.eval=[.slice j m c])(f:b.toList=[T])(q:m<=9223372036854775807) :
  I0 X G a (.call ⟨.builtin .len,xs,b⟩) ty (.d true (.int .i64) (m:Int)):=by
 have i:=z0R l;have k:b=#[T]:=Array.ext' (by omega);subst k;refine⟨.int .i64 m,fun n h e g=>?_,rfl,b7 (by omega)⟩;simp only[execOp,resolve,i];simp[invoke,builtin,Builtin.len_,run_underlying o,goInt,Result.andThen]
theorem q0w{T ty:TypeId}{xs:Array Operand}{b:Array TypeId}{s:ByteArray}(l:X.P.underlying T=some .string)(j:xs.toList.map a.eval=[.string s])(e:b.toList=[T])(m:s.size<=9223372036854775807) :
  I0 X G a (.call ⟨.builtin .len,xs,b⟩) ty (.d true (.int .i64) (s.size:Int)):=by
 have h:=z0R j;have i:b=#[T]:=Array.ext' (by omega);subst i;refine⟨.int .i64 s.size,fun k f c g=>?_,rfl,b7 (by omega)⟩;simp only[execOp,resolve,h];simp[invoke,builtin,Builtin.len_,run_underlying l,goInt,Result.andThen]
theorem g0l{ty:TypeId}{xs:Array Operand}{i:Array TypeId}{u v:Int}(k:xs.toList.map a.eval=[.int .i64 u,.int .i64 v])(f:J9 u)(j:J9 v) :
  I0 X G a (.call ⟨.builtin .min,xs,i⟩) ty (.d true (.int .i64) (FY u v))/\I0 X G a (.call ⟨.builtin .max,xs,i⟩) ty (.d true (.int .i64) (FZ u v)):=by
 have h:xs.map a.eval=#[.int .i64 u,.int .i64 v]:=by apply Array.ext'; simpa using k
 refine⟨⟨.int .i64 (FY u v),fun e c b g=>?_,rfl,(t0c f j).1⟩,⟨.int .i64 (FZ u v),fun e c b g=>?_,rfl,(t0c f j).2⟩⟩
 ·rw[<- B0a];simp only[execOp,resolve,h];simp[invoke,builtin,Builtin.min_,Builtin.min2]
 ·rw[<- B0e];simp only[execOp,resolve,h];simp[invoke,builtin,Builtin.max_,Builtin.max2]
end
theorem q0N{X:Cx}{G:Gh}{a:Act}{st:St}{Γ:m3}{p:Pa}(w:s6 X.P Γ)(S:Sat X G)(ho:G.o=st.o)(d:EnvR X.n G st.e a)(H:PathP p a){op:Op}{ty:TypeId}{q:Prop}{r:AV}{l:List Nat}
  (h:C6 Γ st p op=some (q,r,l)) (hq:q):I0 X G a op ty r:=by
 unfold C6 at h;split at h
 ·rename_i x;split at h
  ·rename_i v Q;simp only[oi,pj] at h;obtain⟨_,rfl,_⟩:=h;exact v8 d [x] (BF (by grind[Ak,D9])) (x8 d H Q)
  grind
 ·rename_i x;split at h
  ·rename_i v Q;simp only[oi,pj] at h;obtain⟨_,rfl,_⟩:=h;exact v8 d [x] (BF (by grind[Ak,D9])) (x8 d H Q)
  grind
 ·rename_i x;split at h
  ·rename_i v Q;split at h
   ·rename_i cs l' hd;simp only[oi,pj] at h;obtain⟨rfl,rfl,_⟩:=h;rw[<- ho] at hd hq;have hx:=x8 d H Q;obtain⟨b,o,us,e,_⟩:=TF S hd hq hx;have aA:ev (y9 a [x]) x=some (.pointer (some ⟨b,o,none⟩)):=by grind[D9]
    rw[e] at hx;exact v8 d [x] (j0Q aA) hx
   grind
  grind
 ·rename_i c x y;split at h
  ·rename_i s;split at h
   ·rename_i f1 vx f2 vy f3 vz j F V;simp only[oi,pj] at h;obtain⟨_,rfl,_⟩:=h;have e1:=CD (x8 d H j);rw[t0f F V];have hc:ev (y9 a [.tmp s,x,y]) (.tmp s)=some (.bool vx):=by grind[D9]
    cases vx with
    | true =>
      have aC:PathP ((s,true) :: p) a:=by
       intro z hz;rcases List.mem_cons.1 hz with rfl | hz
       ·exact e1
       ·exact H z hz
      have e2:=CD (x8 d aC F);exact v8 d [.tmp s,x,y] (v:=.bool vy) (BF (by grind[Ak,D9])) rfl
    | false =>
      have aC:PathP ((s,false) :: p) a:=by
       intro z hz;rcases List.mem_cons.1 hz with rfl | hz
       ·exact e1
       ·exact H z hz
      have e2:=CD (x8 d aC V);exact v8 d [.tmp s,x,y] (v:=.bool vz) (BF (by grind[Ak,D9])) rfl
   grind
  grind
 ·split at h
  ·rename_i u v j F;split at h
   ·rename_i q' r' hb;simp only[oi,pj] at h;obtain⟨rfl,rfl,_⟩:=h;exact q0J d (fun t ht=>w _ t ht) (x8 d H j) (x8 d H F) hb hq
   grind
  grind
 ·rename_i x;split at h
  ·rename_i f b j;simp only[oi,pj] at h;obtain⟨_,rfl,_⟩:=h;have e1:=CD (x8 d H j);have aA:ev (y9 a [x]) x=some (.bool b):=by grind[D9]
   exact v8 d [x] (BF (by grind[Ak])) rfl
  grind
 ·rename_i x;split at h
  ·rename_i f n j;simp only[oi,pj] at h;obtain⟨rfl,rfl,_⟩:=h;have e1:=(A5 (x8 d H j)).1;have aA:ev (y9 a [x]) x=some (.int .i64 n):=by grind[D9]
   exact v8 d [x] (v0G aA hq) ⟨rfl,hq⟩
  grind
 ·split at h
  ·rename_i f k n _ _ _ k0 _ _ _ _ k' _ j F V;split at h;rename_i q' m hm;simp only[oi,pj] at h;obtain⟨rfl,rfl,_⟩:=h;exact q0G d (w _ _ F).2.2.2.2.2 (w _ _ V).2.2.2.2.2 (x8 d H j) hm hq
  ·rename_i id aJ _ _ _ E _ _ _ _ _ j F V;split at h
   ·rename_i E' fr xs aF _ _ _ _ h4 h5;rw[ce] at h;split at h
    ·rename_i Q;have Q:=nb Q;subst Q;simp only[oi,pj] at h;obtain⟨rfl,rfl,_⟩:=h;exact m0V S d (w _ _ F).2.2.2.2.2 (w _ _ h5).2.2.2.2.2 (w _ _ V).2.2.2.2.2 (x8 d H j) (by rw[ho]; exact h4) hq
    grind
   grind
  grind
 ·split at h
  ·rename_i v _ _ _ pl _ j F;split at h
   ·rename_i aP s1 cs l' hf hd;split at h
    ·rename_i r' hm;simp only[oi,pj] at h;obtain⟨_,rfl,_⟩:=h;rw[<- ho] at hd;exact h0V w S d F hf (x8 d H j) hd hm
    grind
   grind
  grind
 ·split at h
  ·rename_i v ti j F;split at h
   ·rename_i cs l' hd;split at h
    ·rename_i r' hm;simp only[oi,pj] at h;obtain⟨rfl,rfl,_⟩:=h;rw[<- ho] at hd hq;obtain⟨b,o,us,e,aH,hA⟩:=TF S hd hq (x8 d H j);exact p0g d (w _ _ F) e aH hA hm
    grind
   grind
  grind
 ·split at h
  ·rename_i v f k n j F;rw[<- ho] at h;exact t0w w S d (x8 d H j) (x8 d H F) h hq
  grind
 ·split at h
  ·rename_i f s g k n _ _ _ _ j F V;simp only[oi,pj] at h;obtain⟨rfl,rfl,_⟩:=h;exact n0s d (w _ _ V).2.2.2.2.2 (x8 d H j) (x8 d H F) hq
  grind
 ·rename_i x i;split at h
  ·rename_i l' j;split at h
   ·rename_i r' F;simp only[oi,pj] at h;obtain⟨_,rfl,_⟩:=h;obtain⟨us,e,hA⟩:=x8 d H j;rw[U8] at F;obtain⟨u,W,hr⟩:=hA.get F;have aA:ev (y9 a [x]) x=some (.tuple us.toArray):=by grind[D9]
    exact v8 d [x] (BF (by grind[Ak])) hr
   grind
  grind
 ·split at h
  ·rename_i cs ti j F;split at h
   ·rename_i r' V;simp only[oi,pj] at h;obtain⟨_,rfl,_⟩:=h;exact n0x d (w _ _ F) (x8 d H j) V
   grind
  grind
 ·grind[oi,pj,i0u]
 ·grind[oi,pj,m0w,i0z]
 ·split at h
  ·rename_i j F V h4;split at h
   ·rename_i te h5;rw[ce] at h
    grind[oi,pj,m0Z,nb,x8]
   grind
  grind
 ·rename_i xs Ts;split at h
  ·rename_i f t l' T j F;split at h
   ·rename_i V;simp only[oi,pj] at h;obtain⟨_,rfl,_⟩:=h;obtain⟨u,Y,e,W,hr⟩:=Am d H j;have:Y=[]:=hr;subst this;obtain⟨p0,aK,Q,aI,aB,_⟩:=W;simp only[List.cons.injEq,and_true] at Q;rw[Q] at e;exact TO (w _ _ V).2.2.2.2.2 e F (by omega)
   grind
  ·rename_i id aJ T j F;split at h
   ·rename_i _ _ _ _ T' fr t l' aF V h4;rw[ce] at h;split at h
    ·rename_i Q;have Q:=nb Q;simp only[oi,pj] at h;obtain⟨_,rfl,_⟩:=h;obtain⟨u,Y,e,W,hr⟩:=Am d H j;have:Y=[]:=hr;subst this;obtain⟨_,T1,aO,t1,aN,aM,g1,g2,g3⟩:=W;rw[<- ho] at h4;rw[h4] at g1;cases g1;have W:=g3 Q;obtain⟨cs,hO,_,_⟩:=S.obs id _ h4;have aB:l'.length<=9223372036854775807:=by
      rcases hO with ⟨_,hn,_⟩ | ⟨b,o,aK,cur,_,_,_,aI,aB,_⟩
      ·omega
      ·grind[maxLen]
     obtain⟨p0,c0,aL⟩:=hO.len;rw[W,aL] at e;exact TO (w _ _ V).2.2.2.2.2 e F aB
    grind
   grind
  ·rename_i T j F;split at h
   ·rename_i V;simp only[oi,pj] at h;obtain⟨_,rfl,_⟩:=h;obtain⟨u,Y,e,W,hr⟩:=Am d H j;have:Y=[]:=hr;subst this;have W:u=_:=W;rw[W] at e;exact TO (w _ _ V).2.2.2.2.2 e F (Nat.zero_le _)
   grind
  ·rename_i f s T j F;split at h
   ·rename_i V;simp only[oi,pj] at h;obtain⟨_,rfl,_⟩:=h;obtain⟨u,Y,e,W,hr⟩:=Am d H j;have:Y=[]:=hr;subst this;obtain⟨Q,hm⟩:=Pe W;rw[Q] at e;exact q0w (w _ _ V).2.2.2.2.2 e F hm
   grind
  grind
 ·rename_i xs Ts;split at h
  ·rename_i f u g v j;simp only[oi,pj] at h;obtain⟨_,rfl,_⟩:=h;obtain⟨x1,aG,e1,W,x2,aD,e2,Q,e3⟩:=Am d H j;have e3:aD=[]:=e3;subst e3; subst e2;obtain⟨g1,g2⟩:=A5 W;obtain⟨g3,g4⟩:=A5 Q;rw[g1,g3] at e1;exact(g0l e1 g2 g4).1
  grind
 ·rename_i xs Ts;split at h
  ·rename_i f u g v j;simp only[oi,pj] at h;obtain⟨_,rfl,_⟩:=h;obtain⟨x1,aG,e1,W,x2,aD,e2,Q,e3⟩:=Am d H j;have e3:aD=[]:=e3;subst e3; subst e2;obtain⟨g1,g2⟩:=A5 W;obtain⟨g3,g4⟩:=A5 Q;rw[g1,g3] at e1;exact(g0l e1 g2 g4).2
  grind
 grind
def BK(o:List (Nat×Ob)):AV->Option ((t:Ty)×List (c7 t)×List Nat×Bool)
 | .d fr (.sl t) xs=>some ⟨t,xs,[],fr||x7 t⟩
 | .os id ver=>match a8 o id with
   | some (.arr _ fr t xs ver')=>bif Nat.beq ver ver' then some ⟨t,xs,[id],fr||x7 t⟩ else none
   | _=>none
 | _=>none
def Pj(n m y:Nat):Prop:=n+m<=9223372036854775807/\(n+m)*y<=140737488355328
def Pk(n n':Int)(y:Nat):Prop:=0<=n/\n'=n/\n.toNat*y<=281474976710656/\n<=9223372036854775807
def CE(st:St)(p:Pa)(t:Ty):Nat->List (Nat×Operand)->Option (List (c7 t)×Bool)
 | _,[]=>some ([],true)
 | k,(i,x) :: r=>bif Nat.beq i k then(match rd st p x with
   | some v=>match AW v with
     | some cs=>match B0 st.o 24 t cs with
       | some (y,[],f)=>match CE st p t (k+1) r with
         | some (ys,g)=>some (y :: ys,f&&g)
         | none=>none
       | _=>none
     | none=>none
   | none=>none) else none
def U9(o:List (Nat×Ob))(d:Nat):Bool:=match a8 o d with
 | none=>true
 | some _=>false
def Pl:TI->Option (TypeId×Ty)
 | ⟨1,_,.slice none 0 0,.sl Te,.sl t⟩=>some (Te,t)
 | _=>none
def X6(Γ:m3)(st:St)(p:Pa)(d:Nat):Op->Option (Prop×AV×(Nat×Ob)×List Nat)
 | .alloc T=>match a8 Γ T with
   | some ti=>match X4 ti.zero.cells.toList with
     | some cs=>bif U9 st.o d then some (True,.ptr d 0,(d,.box T cs),[d]) else none
     | none=>none
   | none=>none
 | .box T x=>match rd st p x with
   | some v=>match AW v with
     | some cs=>bif U9 st.o d then some (True,.ptr d 0,(d,.box T cs),[d]) else none
     | none=>none
   | none=>none
 | .makeSlice T l c=>match rd st p l,rd st p c,a8 Γ T with
   | some (.d _ (.int .i64) n),some (.d _ (.int .i64) n'),some ⟨_,_,_,.sl E,_⟩=>match a8 Γ E with
     | some te=>match Pl te with
       | some (Te,t)=>bif U9 st.o d then some (Pk n n' te.bytes,.og d,(d,.grd E Te true t (List.replicate n.toNat []) none),[d]) else none
       | none=>match X4 te.zero.cells.toList with
         | some cs=>match B0 st.o 24 te.ty cs with
           | some (z,[],f)=>bif U9 st.o d&&Nat.beq te.size (sz te.ty) then some (Pk n n' te.bytes,.os d 0,(d,.arr E f te.ty (List.replicate n.toNat z) 0),[d]) else none
           | _=>none
         | none=>none
     | none=>none
   | _,_,_=>none
 | .buildSlice T n parts=>match a8 Γ T with
   | some ⟨_,_,_,.sl E,_⟩=>match a8 Γ E with
     | some te=>match CE st p te.ty 0 parts.toList with
       | some (xs,f)=>bif U9 st.o d&&Nat.beq te.size (sz te.ty)&&Nat.beq parts.toList.length n&&Nat.ble (n*te.size) 16777216 then some (True,.os d 0,(d,.arr E f te.ty xs 0),[d]) else none
       | none=>none
     | none=>none
   | _=>none
 | .call ⟨.builtin .append,xs,Ts⟩=>match H9 st p xs.toList,Ts.toList with
   | some [.os id ver,v],[T,T2]=>match a8 Γ T,a8 st.o id,BK st.o v with
     | some ⟨_,_,_,.sl E,_⟩,some (.arr E' fr t l ver'),some ⟨t',m,ids,f⟩=>match a8 Γ E,P6 (.sl t') (.sl t) m with
       | some te,some m'=>bif Nat.beq ver ver'&&Nat.beq E E'&&Nat.beq te.size (sz t)&&Nat.beq T T2 then some (Pj l.length m'.length te.bytes,.os id (ver+1),(id,.arr E (fr&&f) t (l++m') (ver+1)),id :: ids) else none
       | _,_=>none
     | _,_,_=>none
   | some [.v (.slice none 0 0),v],[T,T2]=>match a8 Γ T,BK st.o v with
     | some ⟨_,_,_,.sl E,_⟩,some ⟨t,m,ids,f⟩=>match a8 Γ E with
       | some te=>bif U9 st.o d&&Nat.beq te.size (sz t)&&Nat.beq T T2 then some (Pj 0 m.length te.bytes,.os d 0,(d,.arr E f t m 0),d :: ids) else none
       | none=>none
     | _,_=>none
   | _,_=>none
 | _=>none
def AY(Γ:m3)(st:St)(p:Pa):Op->Option (Prop×(Nat×Ob)×List Nat)
 | .store T x y=>match rd st p x,rd st p y,a8 Γ T with
   | some (.ptr id off),some v,some ti=>match a8 st.o id,AW v with
     | some (.box T' cs),some vs=>bif Nat.beq vs.length ti.size&&Nat.ble (off+vs.length) cs.length then some (True,(id,.box T' (Dz cs off vs)),[id]) else none
     | _,_=>none
   | some (.pel id ver k s off),some v,some ti=>match a8 st.o id,AW v with
     | some (.arr E fr t l ver'),some vs=>match B0 st.o 24 t (Dz (s5 fr t (l.getD k (a6 t))) off vs) with
       | some (y,[],f)=>bif Nat.beq ver ver'&&Nat.beq s (sz t)&&Nat.beq vs.length ti.size&&Nat.ble (off+vs.length) (sz t) then some (k<l.length,(id,.arr E (fr&&f) t (l.set k y) ver'),[id]) else none
       | _=>none
     | _,_=>none
   | _,_,_=>none
 | _=>none
def Mk(X:Cx)(G:Gh)(a:Act)(op:Op)(ty:TypeId)(av:AV)(w:Nat×Ob):Prop :=
 ∃v G',(∀dst pos after g,(execOp a.eval ⟨dst,op,ty,pos,after,g⟩).run X.P G.w=.ok (.value v) G'.w)/\Sat X G'/\GLe G G'/\G'.o=w :: G.o/\AVR G' av v
theorem CF{o:List (Nat×Ob)}{d:Nat}(h:U9 o d=true):a8 o d=none:=by
 grind[U9]
section
variable {X:Cx} {G:Gh} {a:Act} {st:St} {Γ:m3} {p:Pa}
theorem Pm{d:Nat}{ob:Ob}{r:Value}(h:a8 G.o d=none):u0w G d ob r:=⟨(fun _ _ a=>by grind),(fun _ _ _ _ _ a=>by grind),by rw[h]; rfl⟩
theorem TP(S:Sat X G){d:Nat}{T:TypeId}{cs:List AV}{us:Array Value}(i:a8 G.o d=none)(j:AVRs G cs us.toList) :
  ∃G',G'.w=G.w.alloc (.cells us T)/\Sat X G'/\GLe G G'/\G'.o=(d,.box T cs) :: G.o/\AVR G' (.ptr d 0) (.pointer (some ⟨G.w.heap.size,0,none⟩)):=by
 have c:=Tp G.w (.cells us T);have f:=Tq G.w us T;have h:=S.put (id:=d) (ob:=.box T cs) (r:=.pointer (some ⟨G.w.heap.size,0,none⟩)) (g:=some G.w.heap.size) (w':=G.w.alloc (.cells us T)) (go:=none) (Pm i) (fun _ e=>by cases e) (WE.of_ext c.ext) (fun b e=>by cases e; exact .inr (Nat.le_refl _))
  (fun a=>⟨G.w.heap.size,us.toList,by simp[Gh.put],by simp[Gh.put],f,j.mono a⟩)
 exact⟨_,rfl,h.1,h.2,rfl,⟨T,cs,by rw[show(Gh.put G d (.box T cs) _ _ _).o=(d,.box T cs) :: G.o from rfl,lK]; simp⟩,_,by simp[Gh.put],rfl⟩
theorem z0J(S:Sat X G){d:Nat}{E:TypeId}{fr:Bool}{t:Ty}{xs:List (c7 t)}{us:Array Value}(m:a8 G.o d=none)(i:AllR (RT (rg G fr) G.w t) us.toList xs)(n:xs.length<=9223372036854775807) :
  ∃G',G'.w=G.w.alloc (.cells us E)/\Sat X G'/\GLe G G'/\G'.o=(d,.arr E fr t xs 0) :: G.o/\AVR G' (.os d 0) (.slice (some ⟨G.w.heap.size,0,none⟩) xs.length xs.length):=by
 have l:=Tp G.w (.cells us E);have k:=Tq G.w us E;have a:=i.len (fun c x h=>RT.len h);have h:=S.put (id:=d) (ob:=.arr E fr t xs 0) (r:=.slice (some ⟨G.w.heap.size,0,none⟩) xs.length xs.length) (g:=some G.w.heap.size) (w':=G.w.alloc (.cells us E)) (go:=none) (Pm m) (fun _ e=>by cases e) (WE.of_ext l.ext) (fun b e=>by grind)
  (fun f=>⟨us.toList,by
    simp only[Gh.put,if_true];exact .inr ⟨G.w.heap.size,0,xs.length,us,rfl,rfl,by simpa [Blk] using k,Nat.le_refl _,by simp only[maxLen]; omega,by simpa using a,by rw[List.drop_zero,<- a,List.take_length]⟩,i.mapR (fun c x j=>RT.same (w:=G.w) f.hR j),fun b e=>by simp only[Gh.put,if_true] at e ⊢; cases e; exact Nat.le_trans S.le S.size⟩)
 exact⟨_,rfl,h.1,h.2,rfl,rfl,E,fr,t,xs,0,by rw[show(Gh.put G d (.arr E fr t xs 0) _ _ _).o=(d,.arr E fr t xs 0) :: G.o from rfl,lK]; simp,Nat.le_refl _,fun _=>by simp[Gh.put]⟩
theorem F0J(S:Sat X G){d n:Nat}{E Te:TypeId}{t:Ty}(j:a8 G.o d=none)(m:n<=9223372036854775807) :
  ∃G',G'.w=G.w.alloc (.cells (L0 n [.slice none 0 0]).toArray E)/\Sat X G'/\GLe G G'/\G'.o=(d,.grd E Te true t (List.replicate n []) none) :: G.o/\AVR G' (.og d) (.slice (some ⟨G.w.heap.size,0,none⟩) n n):=by
 have c:=Tp G.w (.cells (L0 n [.slice none 0 0]).toArray E);have f:=Tq G.w (L0 n [.slice none 0 0]).toArray E;have q:L0 n [Value.slice none 0 0]=List.replicate n (.slice none 0 0):=by
  clear c f m
  induction n with
  | zero=>rfl
  | succ n s=>grind[L0]
 have h:=S.put (id:=d) (ob:=.grd E Te true t (List.replicate n []) none) (r:=.slice (some ⟨G.w.heap.size,0,none⟩) n n) (g:=some G.w.heap.size) (w':=G.w.alloc (.cells (L0 n [.slice none 0 0]).toArray E)) (go:=none) (Pm j) (fun _ e=>by cases e) (WE.of_ext c.ext) (fun b e=>by grind)
  (fun i=>⟨List.replicate n (.slice none 0 0),fun _=>none,by
    simp only[Gh.put,if_true,List.length_replicate];exact .inr ⟨G.w.heap.size,0,n,_,rfl,rfl,by simpa [Blk] using f,Nat.le_refl _,by grind[maxLen],by grind,by grind⟩,⟨by simp,fun b=>⟨fun h=>(h.1 rfl).elim,fun⟨_,_,_,h⟩=>by cases h⟩,(fun _ _ _ _ _ _ _ h=>by cases h),fun k a _=>by
     rw[List.length_replicate] at a;refine⟨[],?_,?_,(fun _ h=>by cases h)⟩
     ·simp only[gq,List.getElem?_replicate,a,if_true,Option.getD_some];exact Own.nil
     ·simp only[gq,List.getElem?_replicate,a,if_true,Option.getD_some];rfl,fun v l=>by rw[(List.mem_replicate.1 l).2]; rfl⟩,fun b e=>by simp only[Gh.put,if_true] at e ⊢; cases e; exact Nat.le_trans S.le S.size⟩)
 exact⟨_,rfl,h.1,h.2,rfl,rfl,⟨E,Te,true,t,List.replicate n [],none,by rw[show(Gh.put G d (.grd E Te true t (List.replicate n []) none) _ _ _).o=(d,.grd E Te true t (List.replicate n []) none) :: G.o from rfl,lK]; simp⟩,by simp[Gh.put]⟩
theorem w0C{a:TI}{Te:TypeId}{t:Ty}(h:Pl a=some (Te,t)):a.size=1/\a.zero=.slice none 0 0/\a.ty=.sl t:=by
 unfold Pl at h
 grind
theorem i0t(j:s6 X.P Γ)(S:Sat X G)(v:EnvR X.n G st.e a)(z:PathP p a){d T E ty s0 V Te:Nat}{z0:Value}{r t:Ty}{l c:Operand}{n y:Int}{b:TI}{f g:Bool}
  (hl:rd st p l=some (.d f (.int .i64) n)) (hc:rd st p c=some (.d g (.int .i64) y)) (W:a8 Γ T=some ⟨s0,V,z0,.sl E,r⟩) (k:a8 Γ E=some b) (Q:Pl b=some (Te,t))
  (H:a8 G.o d=none) (hq:Pk n y b.bytes):Mk X G a (.makeSlice T l c) ty (.og d) (d,.grd E Te true t (List.replicate n.toNat []) none):=by
 obtain⟨Y,rfl,x,q3⟩:=hq;obtain⟨m,rfl⟩:=Int.eq_ofNat_of_zero_le Y;simp only[Int.toNat_natCast] at x ⊢;have i:=j E _ k
 haveI:X1 X.P T E:=⟨(j T _ W).2.2.2.2.2⟩
 haveI:Info X.P E b.size b.bytes b.zero:=⟨i.1⟩
 obtain⟨_,F,_⟩:=w0C Q;obtain⟨G',h1,h2,h3,h4,h5⟩:=F0J S (E:=E) (Te:=Te) (t:=t) (d:=d) (n:=m) H (by omega);have e1:=(A5 (x8 v z hl)).1;have e2:=(A5 (x8 v z hc)).1;have s:ev (y9 a [l,c]) l=some (.int .i64 (m:Int)):=by grind[D9]
 have u:ev (y9 a [l,c]) c=some (.int .i64 (m:Int)):=by grind[D9]
 refine⟨_,G',fun w q h g=>?_,h2,h3,h4,h5⟩;rw[h1];have hz:b.zero.cells.toList=[.slice none 0 0]:=by rw[F]; rfl
 exact l0v (P:=X.P) (n:=X.n) s u hz (by rw[<- hz]; exact i.2.1) i.2.2.1 x (by omega) a w q h g (TB v _)
theorem n0M(e:s6 X.P Γ)(S:Sat X G){d T ty:Nat}{c:TI}{cs:List AV}(j:a8 Γ T=some c)(hz:X4 c.zero.cells.toList=some cs)(i:a8 G.o d=none):Mk X G a (.alloc T) ty (.ptr d 0) (d,.box T cs):=by
 obtain⟨v,t,n,s,q,m⟩:=TP S (T:=T) i (HR (G:=G) hz);have u:Info X.P T c.size c.bytes c.zero:=⟨(e T _ j).1⟩;obtain⟨l,b,y,x,k⟩:=u.get;refine⟨_,v,fun r h f g=>?_,n,s,q,m⟩;have hz:=OM G.w b k;simp only[execOp,Instr.alloc,Sem.run_bind,hz,Result.andThen,t];rfl
theorem u0c(S:Sat X G)(c:EnvR X.n G st.e a)(l:PathP p a){d T ty:Nat}{x:Operand}{v:AV}{cs:List AV}(m:rd st p x=some v)(w:AW v=some cs)(j:a8 G.o d=none):Mk X G a (.box T x) ty (.ptr d 0) (d,.box T cs):=by
 obtain⟨t,_⟩:=HS w (x8 c l m);obtain⟨s,u,h,r,i,k⟩:=TP S (T:=T) (us:=(a.eval x).cells) j t;refine⟨_,s,fun q f b g=>?_,h,r,i,k⟩;simp only[execOp,u];rfl
theorem m0C{a:Type}{R:List Value->a->Prop}{zs:List Value}{z:a}(h:R zs z):∀k,AllR R (L0 k zs) (List.replicate k z)
 | 0=>rfl
 | k+1=>⟨zs,L0 k zs,rfl,h,m0C h k⟩
theorem h0F(j:s6 X.P Γ)(S:Sat X G)(x:EnvR X.n G st.e a)(V:PathP p a){d T E ty s0 Y:Nat}{z0:Value}{r:Ty}{l c:Operand}{n H:Int}{b:TI}{cs:List AV}{z:c7 b.ty}{f g v:Bool}
  (hl:rd st p l=some (.d f (.int .i64) n)) (hc:rd st p c=some (.d g (.int .i64) H)) (hT:a8 Γ T=some ⟨s0,Y,z0,.sl E,r⟩) (k:a8 Γ E=some b) (hz:X4 b.zero.cells.toList=some cs) (hn:B0 G.o 24 b.ty cs=some (z,[],v))
  (W:a8 G.o d=none) (_:b.size=sz b.ty) (hq:Pk n H b.bytes):Mk X G a (.makeSlice T l c) ty (.os d 0) (d,.arr E v b.ty (List.replicate n.toNat z) 0):=by
 obtain⟨q1,rfl,F,q3⟩:=hq;obtain⟨m,rfl⟩:=Int.eq_ofNat_of_zero_le q1;simp only[Int.toNat_natCast] at F ⊢;have i:=j E _ k
 haveI:X1 X.P T E:=⟨(j T _ hT).2.2.2.2.2⟩
 haveI:Info X.P E b.size b.bytes b.zero:=⟨i.1⟩
 have s:=Tx S hn (HR (G:=G) hz);have hA:=m0C (R:=RT (rg G v) G.w b.ty) s m;obtain⟨G',h1,h2,h3,h4,Q⟩:=z0J S (E:=E) (d:=d) (us:=(L0 m b.zero.cells.toList).toArray) W (by omega) (by grind);rw[List.length_replicate] at Q;have e1:=(A5 (x8 x V hl)).1;have e2:=(A5 (x8 x V hc)).1;have t:ev (y9 a [l,c]) l=some (.int .i64 (m:Int)):=by grind[D9]
 have u:ev (y9 a [l,c]) c=some (.int .i64 (m:Int)):=by grind[D9]
 refine⟨_,G',fun y q h g=>?_,h2,h3,h4,Q⟩;rw[h1];exact l0v (P:=X.P) (n:=X.n) t u rfl i.2.1 i.2.2.1 F (by omega) a y q h g (TB x _)
theorem s0u(pre post c:List Value)(k:Nat)(h:pre.length=k):u6 (pre++post) k c=pre++(c++post.drop c.length):=by
 unfold u6;subst h
 simp_all
theorem j0l(S:Sat X G)(s:G.o=st.o)(u:EnvR X.n G st.e a)(E:PathP p a){t:Ty}{place:List (Nat×Nat)}:∀{ps:List (Nat×Operand)} {k:Nat} {ys:List (c7 t)} {fl:Bool} {pre post:List Value},CE st p t k ps=some (ys,fl)->pre.length=k*sz t->post.length=ps.length*sz t ->
  (∀i,i<k+ps.length->place[i]?=some (i*sz t,sz t))->∃ws,AU place (pre++post) (ps.map fun q=>(q.1,a.eval q.2))=some (pre++ws)/\AllR (RT (rg G fl) G.w t) ws ys/\ys.length=ps.length
 | [],k,ys,fl,pre,post,h,h1,h2,hpl=>by
   simp only[CE,oi,pj] at h; obtain⟨rfl,rfl⟩:=h;have:post=[]:=List.eq_nil_of_length_eq_zero (by grind);subst this;exact⟨[],by simp[AU],rfl,rfl⟩
 | (i,x) :: r,k,ys,fl,pre,post,h,h1,h2,hpl=>by
   unfold CE at h;rw[ce] at h;split at h
   ·rename_i hi;have hi:=nb hi;subst hi;split at h
    ·rename_i v H;split at h
     ·rename_i cs l;split at h
      ·rename_i y f z;split at h
       ·rename_i T g m;simp only[oi,pj] at h; obtain⟨rfl,rfl⟩:=h;obtain⟨Q,_⟩:=HS l (x8 u E H);rw[<- s] at z;have F:=Tx S z Q;have d:=RT.len F;rw[List.length_cons,Nat.add_mul] at h2;obtain⟨ws,Y,P,g3⟩:=j0l S s u E (k:=i+1) (pre:=pre++(a.eval x).cells.toList) (post:=post.drop (sz t)) m (by grind) (by grind) (fun j W=>hpl j (by grind));refine⟨(a.eval x).cells.toList++ws,?_,⟨_,ws,rfl,RT.up F (fun k b=>⟨b.1,fun e=>b.2 (by grind)⟩),P.mapR (fun c x h=>RT.up h (fun k b=>⟨b.1,fun e=>b.2 (by grind)⟩))⟩,by grind⟩;simp only[List.map_cons];unfold AU;rw[hpl i (by grind)];have V:(BG (a.eval x).cells.toList (sz t)&&Nat.ble (i*sz t+sz t) (pre++post).length)=true:=by
         rw[ba];exact⟨TJ d,Nat.ble_eq_true_of_le (by grind)⟩
        simp only[V,cond_true]
        grind[s0u,List.append_assoc]
       grind
      grind
     grind
    grind
   grind
theorem g0w(s:s6 X.P Γ)(S:Sat X G)(ho:G.o=st.o)(hE:EnvR X.n G st.e a)(hp:PathP p a){d T E ty s0 y0 n:Nat}{z0:Value}{Q:Ty}{f:Array (Nat×Operand)}{b:TI}{xs:List (c7 b.ty)}{fr:Bool}
  (hT:a8 Γ T=some ⟨s0,y0,z0,.sl E,Q⟩) (H:a8 Γ E=some b) (F:CE st p b.ty 0 f.toList=some (xs,fr)) (hd:a8 G.o d=none) (hs:b.size=sz b.ty) (hn:f.toList.length=n) (aH:n*b.size<=16777216) :
  Mk X G a (.buildSlice T n f) ty (.os d 0) (d,.arr E fr b.ty xs 0):=by
 have m:=s E _ H;have hU:=(s T _ hT).2.2.2.2.2;have hI:Info X.P E b.size b.bytes b.zero:=⟨m.1⟩;obtain⟨V,j,k1,k2,k3⟩:=hI.get;have aC:=HM m.2.1;have hz:b.zero.cells.size=b.size:=by simpa using aC
 have t:0<b.size:=by have:=m.2.2.1; simpa using this
 let place:List (Nat×Nat):=(List.range n).map fun i=>(i*sz b.ty,sz b.ty)
 have k:∀i,i<n->place[i]?=some (i*sz b.ty,sz b.ty):=fun i hi=>by grind
 let zs:=((Array.range (n*b.size)).map (b.zero.cells[· % b.zero.cells.size]!)).toList
 have aA:zs.length=n*sz b.ty:=by simp[zs,hs]
 obtain⟨v,g1,g2,g3⟩:=j0l S ho hE hp (place:=place) (pre:=[]) (post:=zs) F (by simp) (by grind) (fun i hi=>k i (by omega));simp only[List.nil_append] at g1;have hf:=OO place _ zs v g1;have r:=Tu (fun i:Nat=>place[i]?) (fun i:Nat=>some (i*b.size,b.size)) _ _ _ (fun i q hi=>by
  grind) hf
 have aF:=g2.len (fun c x h=>RT.len h);obtain⟨G',h1,h2,h3,h4,h5⟩:=z0J S (E:=E) (d:=d) (us:=v.toArray) hd (by omega) (by have:=Nat.le_mul_of_pos_right n t; omega);have Y:xs.length=n:=by omega
 rw[Y] at h5;refine⟨_,G',fun aI aG W g=>?_,h2,h3,h4,h5⟩;rw[h1];have e1:f.map (fun(i,x)=>(i,a.eval x))=(f.toList.map fun q=>(q.1,a.eval q.2)).toArray:=by
  apply Array.ext';simp only[Array.toList_map]
 have u:¬n*b.size > 2 ^ 24:=by omega
 have l:∀w:World,(newRow E v.toArray).run X.P w=.ok ⟨w.heap.size,0,none⟩ (w.alloc (.cells v.toArray E)):=fun _=>rfl;have aB:V.size=b.size:=k1;simp only[execOp,e1];simp only[Instr.buildSlice,Sem.run_bind,run_underlying hU,Result.andThen,P5 G.w j,aB,u,if_false];by_cases z:n*b.size=0
 ·have aD:n=0:=by rcases Nat.mul_eq_zero.1 z with h' | h'; exact h'; omega
  have y:Array.map (fun x=>(#[]:Array Value)[x % (#[]:Array Value).size]!) (Array.range (n*b.size))=zs.toArray:=by
   have:zs.length=0:=by rw[aA,aD]; simp
   rw[List.eq_nil_of_length_eq_zero this,z];simp
  simp only[z] at y ⊢;simp only[if_true,Sem.run_bind,Sem.run_pure,Result.andThen,y,r,l]
 ·have y:(Array.range (n*b.size)).map (fun x=>b.zero.cells[x % b.zero.cells.size]!)=zs.toArray:=Array.toArray_toList.symm;simp only[z,if_false,Sem.run_bind,Sem.run_pure,Result.andThen,OM G.w j k3,y,r,l]
theorem j0A(S:Sat X G){v:AV}{u:Value}{t:Ty}{f:List (c7 t)}{j:List Nat}{n:Bool}(h:BK G.o v=some ⟨t,f,j,n⟩)(k:AVR G v u) :
  ∃p2 c b2 o2 news,u=.slice p2 f.length c/\(f.length=0∨p2=some ⟨b2,o2,none⟩)/\At G.w b2 o2 news/\AllR (RT (rg G n) G.w t) news f:=by
 have g:∀{l:Bool} {t:Ty} {c:List Value} {x:c7 t},RT (rg G l) G.w t c x->RT (rg G (l||x7 t)) G.w t c x:=fun {l t c x} h=>by
  grind[x7,RT.free,RT.up]
 unfold BK at h;split at h
 ·simp only[oi] at h; cases h;obtain⟨p,e,d,h2,h3,Y⟩:=k;simp only[List.cons.injEq,and_true] at d;rcases Y with rfl | ⟨b,o,ds,q,hb,a,hall⟩
  ·exact⟨p,e,0,0,[],d,.inl rfl,OP,rfl⟩
  ·exact⟨p,e,b,o,ds,d,.inr q,a,hall.mapR (fun c x h=>g h)⟩
 ·rename_i id aA;split at h
  ·rename_i E V t' xs y r;rw[ce] at h;split at h
   ·rename_i d;have d:=nb d;simp only[oi] at h; cases h;obtain⟨_,T1,aB,t1,H,z,s,g2,g3⟩:=k;rw[r] at s;cases s;have k:=g3 d;obtain⟨W,i,hA,F⟩:=S.obs id _ r;cases hg:G.γ id with
    | none =>
      rw[hg] at i;rcases i with ⟨_,Q,_,p,q⟩ | ⟨b,_,_,_,hb,_⟩
      ·have:f=[]:=List.eq_nil_of_length_eq_zero Q;subst this;exact⟨p,0,0,0,[],by grind,.inl rfl,OP,rfl⟩
      grind
    | some b =>
      rw[hg] at i;obtain⟨T,P,m,a⟩:=i.at;rcases i with ⟨h,_⟩ | ⟨b',o1,e,cur,hb,hv2,_⟩
      ·cases h
      ·cases hb;rw[hv2] at m; cases m;exact⟨_,P,b,T,W,by grind,.inr rfl,a,hA.mapR (fun c x h=>g h)⟩
   grind
  grind
 grind
theorem TQ{K:Nat->Prop}{w:World}{t:Ty}:∀{news:List Value} {ys:List (c7 t)},AllR (RT K w t) news ys->∀u∈news,u.oneCell'=true
 | news,[],h,u,a=>by rw[show news=[] from h] at a; cases a
 | _,y :: r,⟨c,d,e,h1,h2⟩,u,a=>by
   rw[e] at a;rcases List.mem_append.1 a with a | a
   ·grind[RT.one]
   ·exact TQ h2 u a
theorem i0h{xs:Array Operand}{b:Array TypeId}{T ty:TypeId}{u v r:Value}{w':World}(f:xs.toList.map a.eval=[u,v])(h:b.toList=[T,T])(e:(Builtin.append_ #[T,T] ty #[u,v]).run X.P G.w=.ok r w') :
  ∀dst pos after g,(execOp a.eval ⟨dst,.call ⟨.builtin .append,xs,b⟩,ty,pos,after,g⟩).run X.P G.w=.ok (.value r) w':=by
 intro dst pos after g;have c:xs.map a.eval=#[u,v]:=by apply Array.ext'; simpa using f
 have d:b=#[T,T]:=Array.ext' (by omega);subst d;simp only[execOp,resolve,c];simp[invoke,builtin,e,Result.andThen]
theorem m0B(n:s6 X.P Γ)(S:Sat X G){T E ty s0 y0 id ver:Nat}{z0:Value}{V:Ty}{xs:Array Operand}{Ts:Array TypeId}{d:TI}{fr i:Bool}{t:Ty}{l m:List (c7 t)}{aA:List Nat}{u w:Value}{v:AV}
  (hT:a8 Γ T=some ⟨s0,y0,z0,.sl E,V⟩) (y:a8 Γ E=some d) (s:a8 G.o id=some (.arr E fr t l ver)) (hs:d.size=sz t) (aB:Ts.toList=[T,T])
  (hx:xs.toList.map a.eval=[u,w]) (hu:AVR G (.os id ver) u) (hv:BK G.o v=some ⟨t,m,aA,i⟩) (hw:AVR G v w) (hq:Pj l.length m.length d.bytes) :
  Mk X G a (.call ⟨.builtin .append,xs,Ts⟩) ty (.os id (ver+1)) (id,.arr E (fr&&i) t (l++m) (ver+1)):=by
 have f:=n E _ y
 haveI:X1 X.P T E:=⟨(n T _ hT).2.2.2.2.2⟩
 haveI:Info X.P E d.size d.bytes d.zero:=⟨f.1⟩
 have hz:d.zero.cells.size=d.size:=by simpa using HM f.2.1
 obtain⟨p2,c,b2,o2,q,rfl,W,H,z⟩:=j0A S hv hw;obtain⟨_,T1,aL,t1,aI,aG,g1,g2,g3⟩:=hu;rw[s] at g1;cases g1;have hu:=g3 rfl;obtain⟨cs,hO,hA,Q⟩:=S.obs id _ s;rw[<- hs] at hO;obtain⟨v',w',g',F,aC,aF,aD⟩:=s0E (P:=X.P) (T:=T) (ty:=ty) (c:=c) (by have:=f.2.2.1; simpa using this) hz hO W (by rw[z.len (fun c x h=>RT.len h),hs]) H (TQ z) hq.1 hq.2;have h:=S.put (id:=id) (ob:=.arr E (fr&&i) t (l++m) (ver+1)) (r:=v') (g:=g') (w':=w') (go:=G.γ id) ⟨(fun T cs h=>by grind),(fun T aJ t' aK aH h=>by grind),by rw[s]; rfl⟩
  (fun b hb=>⟨⟨_,s⟩,hb⟩) aF (fun b hb=>by grind)
  (fun Y=>⟨cs++q,by grind[Gh.put],((z.mapR (fun c x h=>RT.up h (fun k j=>⟨j.1,fun e=>j.2 (by grind)⟩))).app (hA.mapR (fun c x h=>RT.up h (fun k j=>⟨j.1,fun e=>j.2 (by grind)⟩)))).mapR (fun c x F=>RT.same (w:=G.w) Y.hR F),fun b e=>by
    simp only[Gh.put,if_true] at e ⊢;rcases aD with h | h
    ·exact Q b (h ▸ e)
    ·rw[h] at e; cases e; exact Nat.le_trans S.le S.size⟩)
 rw[hu] at hx;refine⟨v',_,i0h hx aB F,h.1,h.2,rfl,?_,E,fr&&i,t,l++m,ver+1,by rw[show(Gh.put G id (.arr E (fr&&i) t (l++m) (ver+1)) _ _ _).o=(id,.arr E (fr&&i) t (l++m) (ver+1)) :: G.o from rfl,lK]; simp,Nat.le_refl _,fun _=>by simp[Gh.put]⟩;obtain⟨p,c,e⟩:=aC.len;rw[e]; rfl
theorem g0y(l:s6 X.P Γ)(S:Sat X G){T E ty s0 y0 d:Nat}{z0:Value}{F:Ty}{xs:Array Operand}{Ts:Array TypeId}{f:TI}{j:Bool}{t:Ty}{m:List (c7 t)}{V:List Nat}{w:Value}{v:AV}
  (hT:a8 Γ T=some ⟨s0,y0,z0,.sl E,F⟩) (q:a8 Γ E=some f) (hd:a8 G.o d=none) (hs:f.size=sz t) (W:Ts.toList=[T,T])
  (hx:xs.toList.map a.eval=[.slice none 0 0,w]) (hv:BK G.o v=some ⟨t,m,V,j⟩) (hw:AVR G v w) (hq:Pj 0 m.length f.bytes) :
  Mk X G a (.call ⟨.builtin .append,xs,Ts⟩) ty (.os d 0) (d,.arr E j t m 0):=by
 have i:=l E _ q
 haveI:X1 X.P T E:=⟨(l T _ hT).2.2.2.2.2⟩
 haveI:Info X.P E f.size f.bytes f.zero:=⟨i.1⟩
 have hz:f.zero.cells.size=f.size:=by simpa using HM i.2.1
 obtain⟨p2,c,b2,o2,n,rfl,H,z,y⟩:=j0A S hv hw;obtain⟨v',w',g',u,k,aA,Y⟩:=s0E (P:=X.P) (T:=T) (ty:=ty) (c:=c) (by have:=i.2.2.1; simpa using this) hz (Own.nil (w:=G.w) (E:=E) (s:=f.size) (p:=none)) H (by rw[y.len (fun c x h=>RT.len h),hs]) z (TQ y) hq.1 hq.2;simp only[Nat.zero_add,List.nil_append] at k;have h:=S.put (id:=d) (ob:=.arr E j t m 0) (r:=v') (g:=g') (w':=w') (go:=none) (Pm hd) (fun _ e=>by cases e) aA (fun b hb=>by grind)
  (fun Q=>⟨n,by grind[Gh.put],y.mapR (fun c x u=>RT.same (w:=G.w) Q.hR u),fun b e=>by
    simp only[Gh.put,if_true] at e ⊢;rcases Y with h | h
    ·rw[h] at e; cases e
    ·rw[h] at e; cases e; exact Nat.le_trans S.le S.size⟩)
 refine⟨v',_,i0h hx W u,h.1,h.2,rfl,?_,E,j,t,m,0,by rw[show(Gh.put G d (.arr E j t m 0) _ _ _).o=(d,.arr E j t m 0) :: G.o from rfl,lK]; simp,Nat.le_refl _,fun _=>by simp[Gh.put]⟩;obtain⟨p,c,e⟩:=k.len;rw[e]; rfl
def Us(X:Cx)(G:Gh)(a:Act)(op:Op)(ty:TypeId)(w:Nat×Ob):Prop :=
 ∃G',(∀dst pos after g,(execOp a.eval ⟨dst,op,ty,pos,after,g⟩).run X.P G.w=.ok .skip G'.w)/\Sat X G'/\GLe G G'/\G'.o=w :: G.o
theorem TR{T ty:TypeId}{x y:Operand}{b o:Nat}{w':World}(c:a.eval x=.pointer (some ⟨b,o,none⟩))(h:(storeVar T ⟨b,o,none⟩ (a.eval y)).run X.P G.w=.ok () w') :
  ∀dst pos after g,(execOp a.eval ⟨dst,.store T x y,ty,pos,after,g⟩).run X.P G.w=.ok .skip w':=by
 intro dst pos after g;simp only[execOp,c];simp[Instr.storeAt,Instr.sureAddr,h,Result.andThen]
theorem l0o(n:s6 X.P Γ)(S:Sat X G){T T' ty id c:Nat}{x y:Operand}{e:TI}{cs vs:List AV}{v:AV}(W:a8 Γ T=some e)(t:a8 G.o id=some (.box T' cs))(Q:AVR G (.ptr id c) (a.eval x))(hv:AVR G v (a.eval y))(hc:AW v=some vs)
  (hl:vs.length=e.size) (m:c+vs.length<=cs.length):Us X G a (.store T x y) ty (id,.box T' (Dz cs c vs)):=by
 haveI:Info X.P T e.size e.bytes e.zero:=⟨(n T _ W).1⟩
 obtain⟨_,b,V,l⟩:=Q;obtain⟨u,i,g1,E,s,z⟩:=S.obs id _ t;rw[V] at E;cases E;obtain⟨q,h1⟩:=HS hc hv;have F:=q.len;have j:=z.len;have k:=Tt (P:=X.P) (T:=T) (o:=c) (v:=a.eval y) rfl (by omega) h1 s (by omega);have Y:=ON G.w b (u6 i c (a.eval y).cells.toList).toArray;have hB:=setRow_heap G.w b i.toArray (u6 i c (a.eval y).cells.toList).toArray T' (0,0) s;have h:=S.put (id:=id) (ob:=.box T' (Dz cs c vs)) (r:=G.ρ id) (g:=some b) (w':=G.w.setRow b (u6 i c (a.eval y).cells.toList).toArray) (go:=some b) ⟨(fun T cs h=>⟨rfl,_,_,rfl⟩),(fun T aA t' aB H h=>by grind),by rw[t]; rfl⟩
  (fun u f=>by grind) (WE.of_wr Y) (fun u f=>.inl f) (fun d=>⟨b,_,by simp[Gh.put],by grind[Gh.put],hB,TH (z.mono d) (q.mono d) m⟩)
 exact⟨_,TR l k,h.1,h.2,rfl⟩
theorem v0j{a vs:List Value}{o k:Nat}(h:o+vs.length<=k)(c:k<=a.length):(u6 a o vs).take k=u6 (a.take k) o vs:=by
 unfold u6;have b:(List.take o a).length=o:=by rw[List.length_take]; omega
 rw[List.append_assoc,List.take_append,List.take_append,b,List.append_assoc];congr 1
 ·rw[List.take_of_length_le (by rw[b]; omega),List.take_take]; congr 1; omega
 ·congr 1
  ·rw[List.take_of_length_le (by omega)]
  ·rw[List.drop_take]; congr 1; omega
theorem w0K{a vs:List Value}{o k:Nat}(h:o<=a.length):(u6 a (o+k) vs).drop o=u6 (a.drop o) k vs:=by
 grind[u6,List.append_assoc,List.drop_append,List.drop_take,List.length_take,List.drop_drop,min,Nat.add_assoc]
theorem v0u{cs vs:List Value}{o:Nat}(h:o+vs.length<=cs.length):(u6 cs o vs).length=cs.length:=by
 grind[u6,List.length_append,List.length_take,List.length_drop]
theorem l0n(aH:s6 X.P Γ)(S:Sat X G){T E ty id ver k d:Nat}{x y:Operand}{u:TI}{fr V:Bool}{t:Ty}{l:List (c7 t)}{vs:List AV}{v:AV}{z:c7 t}(hT:a8 Γ T=some u)(ho:a8 G.o id=some (.arr E fr t l ver))(hx:AVR G (.pel id ver k (sz t) d) (a.eval x))
  (hv:AVR G v (a.eval y)) (hc:AW v=some vs) (hl:vs.length=u.size) (aQ:d+vs.length<=sz t) (j:k<l.length) (hd:B0 G.o 24 t (Dz (s5 fr t (l.getD k (a6 t))) d vs)=some (z,[],V)):Us X G a (.store T x y) ty (id,.arr E (fr&&V) t (l.set k z) ver):=by
 haveI:Info X.P T u.size u.bytes u.zero:=⟨(aH T _ hT).1⟩
 obtain⟨_,T1,aS,t1,aO,aK,g1,g2,g3⟩:=hx;rw[ho] at g1;cases g1;obtain⟨b,o,n0,c0,hr,aF⟩:=g3 rfl;obtain⟨cs,hO,hA,aN⟩:=S.obs id _ ho;obtain⟨hV,h1⟩:=HS hc hv;have aL:=hV.len;rcases hO with ⟨_,hn,_⟩ | ⟨b',o',cap,cur,hb,hv2,k1,k2,k3,k4,k5⟩
 ·omega
 have q:b'=b/\o'=o:=by rw[hr] at hv2; simp only[Value.slice.injEq,oi,Addr.mk.injEq] at hv2; exact⟨hv2.1.1.symm,hv2.1.2.1.symm⟩
 obtain⟨q,aC⟩:=q;subst q; subst aC;obtain⟨i,c,f,e,hp,hR⟩:=hA.get (fun c x h=>RT.len h) j;have Y:=RT.len hR;have W:(k+1)*sz t<=l.length*sz t:=Nat.mul_le_mul_right _ j;rw[Nat.add_mul] at W;have aI:l.length*sz t<=cap*sz t:=Nat.mul_le_mul_right _ k2;have hB:Blk G.w b' cur.toList E:=by unfold Blk; rw[Array.toArray_toList]; exact k1
 have aJ:cur.toList.length=o'+cap*sz t:=by omega
 have aA:=Tt (P:=X.P) (T:=T) (o:=o'+(k*sz t+d)) (v:=a.eval y) rfl (by omega) h1 hB (by omega);have hW:=ON G.w b' (u6 cur.toList (o'+(k*sz t+d)) (a.eval y).cells.toList).toArray;have aD:=setRow_heap G.w b' cur (u6 cur.toList (o'+(k*sz t+d)) (a.eval y).cells.toList).toArray E (0,0) k1;have hD:=X3 hR;have aB:l.getD k (a6 t)=l[k]:=by simp[j]
 rw[aB] at hd;have aG:=hD.len;have F:=Tx S hd (TH hD hV (by omega));have n:=AllR.set (R:=RT (rg G (fr&&V)) G.w t) (s:=sz t) (fun c x h=>RT.len h) (RT.up F (fun k j=>⟨j.1,fun e=>j.2 (by grind)⟩)) (hA.mapR (fun c x h=>RT.up h (fun k j=>⟨j.1,fun e=>j.2 (by grind)⟩))) j;have m:cs.take (k*sz t)++u6 c d (a.eval y).cells.toList++cs.drop ((k+1)*sz t)=((u6 cur.toList (o'+(k*sz t+d)) (a.eval y).cells.toList).drop o').take (l.length*sz t):=by
  rw[w0K (by omega),v0j (by omega) (by rw[List.length_drop]; omega),k5,e];have e1:(i++c++f).take (k*sz t)=i:=by rw[List.append_assoc,<- hp,List.take_left]
  have e2:(i++c++f).drop ((k+1)*sz t)=f:=by
   have:(k+1)*sz t=(i++c).length:=by rw[List.length_append,hp,Y,Nat.add_mul]; omega
   rw[this,List.drop_left]
  rw[e1,e2];unfold u6;rw[<- hp];have f1:List.take (i.length+d) (i++c++f)=i++c.take d:=by
   rw[List.append_assoc,List.take_length_add_append,List.take_append_of_le_length (by omega)]
  have f2:List.drop (i.length+d+(a.eval y).cells.toList.length) (i++c++f)=c.drop (d+(a.eval y).cells.toList.length)++f:=by
   rw[List.append_assoc,Nat.add_assoc,List.drop_length_add_append,List.drop_append_of_le_length (by omega)]
  rw[f1,f2];simp
 rw[m] at n;have h:=S.put (id:=id) (ob:=.arr E (fr&&V) t (l.set k z) ver) (r:=G.ρ id) (g:=some b') (w':=G.w.setRow b' (u6 cur.toList (o'+(k*sz t+d)) (a.eval y).cells.toList).toArray) (go:=some b') ⟨(fun T cs h=>by grind),(fun T aP t' aR aM h=>by grind),by rw[ho]; rfl⟩
  (fun b2 H=>by grind) (WE.of_wr hW) (fun b2 H=>.inl H)
  (fun Q=>⟨_,by
    simp only[Gh.put,if_true,List.length_set];exact .inr ⟨b',o',cap,_,rfl,hv2,aD,k2,k3,by grind[List.size_toArray,v0u],by grind⟩,n.mapR (fun c x hr=>RT.same (w:=G.w) Q.hR hr),fun b e=>by grind[Gh.put]⟩)
 exact⟨_,TR aF aA,h.1,h.2,rfl⟩
theorem q0Q(aC:s6 X.P Γ)(S:Sat X G)(ho:G.o=st.o)(hE:EnvR X.n G st.e a)(hp:PathP p a){W:Op}{ty:TypeId}{d:Nat}{q:Prop}{r:AV}{w:Nat×Ob}{l:List Nat}
  (h:X6 Γ st p d W=some (q,r,w,l)) (hq:q):Mk X G a W ty r w:=by
 unfold X6 at h;split at h
 ·split at h
  ·rename_i ti hT;split at h
   ·rename_i cs hz;rw[ce] at h
    grind[oi,pj,n0M,CF]
   grind
  grind
 ·split at h
  ·rename_i v hv;split at h
   ·rename_i cs hc;rw[ce] at h
    grind[oi,pj,u0c,CF]
   grind
  grind
 ·split at h
  ·rename_i f n g n' _ _ _ E _ j F Q;split at h
   ·rename_i k h4;split at h
    ·rename_i Te t aB;rw[ce] at h
     grind[oi,pj,i0t,CF]
    ·split at h
     ·rename_i cs Y;split at h
      ·rename_i z H h6;rw[ce] at h;split at h
       ·rename_i b;rw[ba] at b
        grind[oi,pj,h0F,CF,nb]
       grind
      grind
     grind
   grind
  grind
 ·split at h
  ·rename_i j;split at h
   ·rename_i k F;split at h
    ·rename_i xs H Q;rw[ce] at h;split at h
     ·rename_i b;simp only[ba] at b
      grind[oi,pj,g0w,CF,nb,Nat.le_of_ble_eq_true]
     grind
    grind
   grind
  grind
 ·split at h
  ·rename_i id aD v T T2 j F;split at h
   ·rename_i _ _ _ E _ E' fr t l' aA t' m x H Q h4 Y;split at h
    ·rename_i k m' h6 h7;rw[ce] at h;split at h
     ·rename_i b;simp only[ba] at b;simp only[oi,pj] at h;obtain⟨rfl,rfl,rfl,_⟩:=h;obtain⟨e,rfl⟩:=CB h7;cases e;have e1:=nb b.1.1.1;have e2:=nb b.1.1.2;have e3:=nb b.1.2;have s:=nb b.2;subst e1; subst e2; subst s;obtain⟨u,V,e,y,w,c,e',hw,i⟩:=Am hE hp j;have i:c=[]:=i
      grind[m0B]
     grind
    grind
   grind
  ·rename_i v T T2 j F;split at h
   ·rename_i _ _ _ E _ t m x H Q Y;split at h
    ·rename_i k h6;rw[ce] at h;split at h
     ·rename_i b;simp only[ba] at b;simp only[oi,pj] at h;obtain⟨rfl,rfl,rfl,_⟩:=h;have s:=nb b.2;subst s;obtain⟨u,V,e,y,w,c,e',hw,i⟩:=Am hE hp j;have i:c=[]:=i;have y:u=_:=y
      grind[g0y,CF,nb]
     grind
    grind
   grind
  grind
 grind
theorem q0L(c:s6 X.P Γ)(S:Sat X G)(ho:G.o=st.o)(f:EnvR X.n G st.e a)(d:PathP p a){u:Op}{ty:TypeId}{q:Prop}{w:Nat×Ob}{l:List Nat}
  (h:AY Γ st p u=some (q,w,l)) (Q:q):Us X G a u ty w:=by
 unfold AY at h;split at h
 ·split at h
  ·rename_i id r v y m i j;split at h
   ·rename_i T' cs F V g;rw[ce] at h;split at h
    ·rename_i b;rw[ba] at b;simp only[oi,pj] at h;obtain⟨_,rfl,_⟩:=h;exact l0o c S j (by grind) (x8 f d m) (x8 f d i) g (nb b.1) (Nat.le_of_ble_eq_true b.2)
    grind
   grind
  ·rename_i id W k s r v y m i j;split at h
   ·rename_i E fr t l' x F V g;split at h
    ·rename_i z fl Y;rw[ce] at h;split at h
     ·rename_i b;simp only[ba] at b;simp only[oi,pj] at h;obtain⟨rfl,rfl,_⟩:=h;have H:=nb b.1.1.1;have T:=nb b.1.1.2;subst H; subst T;exact l0n c S j (by grind) (x8 f d m) (x8 f d i) g (nb b.1.2) (Nat.le_of_ble_eq_true b.2) Q (by grind)
     grind
    grind
   grind
  grind
 grind
end
inductive m0
 | dat (t:Ty)
 | agg (t:Ty)
 | io (T:TypeId) (t:Ty)
 | fn (f:FuncId) (c:Ty)
 | nof (f:FuncId)
 | nil
 | os (E:TypeId) (t:Ty)
@[reducible] def K0O:m0->Type
  | .dat t=>c7 t
  | .agg t=>c7 t
  | .io _ t=>c7 t
  | .fn _ c=>c7 c
  | .nof _=>Unit
  | .nil=>Unit
  | .os _ t=>List (c7 t)
@[reducible] def s8:List m0->Type
  | []=>Unit
  | p :: r=>K0O p×s8 r
@[reducible] def A3:List m0->Type
  | []=>Unit
  | .io _ t :: _=>c7 t
  | _ :: r=>A3 r
structure Res(ps:List m0) where
 q:Prop
 r:AV
 z:A3 ps
structure Ct where
 f:FuncId
 ps:List m0
 res:s8 ps->Res ps
def ArgsR(K:Nat->Prop)(w:World):Option Nat->(ps:List m0)->s8 ps->List Value->Prop
 | go,[],_,vs=>vs=[]/\go=none
 | go,.dat t :: r,x,vs=>∃v us,vs=v :: us/\RT K w t [v] x.1/\ArgsR K w go r x.2 us
 | go,.agg t :: r,x,vs=>∃cs us,vs=.agg cs.toArray :: us/\RT K w t cs x.1/\ArgsR K w go r x.2 us
 | go,.fn f c :: r,x,vs=>∃cs us,vs=.func (.func f) #[] cs.toArray :: us/\RT K w c cs x.1/\ArgsR K w go r x.2 us
 | go,.nof f :: r,x,vs=>∃us,vs=.func (.func f) #[] #[] :: us/\ArgsR K w go r x.2 us
 | go,.nil :: r,x,vs=>∃us,vs=.pointer none :: us/\ArgsR K w go r x.2 us
 | go,.io T t :: r,x,vs=>∃b cs us,vs=.pointer (some ⟨b,0,none⟩) :: us/\go=some b/\¬K b/\Blk w b cs T/\RT K w t cs x.1/\ArgsR K w none r x.2 us
 | go,.os E t :: r,x,vs=>∃v cs us,vs=v :: us/\(∀b,go=some b->¬K b)/\v.oneCell'=true/\Own w E (sz t) go v x.1.length cs/\AllR (RT K w t) cs x.1/\ArgsR K w none r x.2 us
def C7:List m0->Bool
 | []=>false
 | .os _ _ :: _=>true
 | .dat _ :: r=>C7 r
 | .agg _ :: r=>C7 r
 | .fn _ _ :: r=>C7 r
 | .nof _ :: r=>C7 r
 | .nil :: r=>C7 r
 | .io _ _ :: r=>C7 r
def IOR(K:Nat->Prop)(w:World)(go:Option Nat):(ps:List m0)->A3 ps->Prop
 | [],_=>True
 | .io T t :: _,z=>∃b cs,go=some b/\Blk w b cs T/\RT K w t cs z
 | .dat _ :: r,z=>IOR K w go r z
 | .agg _ :: r,z=>IOR K w go r z
 | .fn _ _ :: r,z=>IOR K w go r z
 | .nof _ :: r,z=>IOR K w go r z
 | .nil :: r,z=>IOR K w go r z
 | .os _ _ :: r,z=>IOR K w go r z
/- The result: data lead S8 K; each row that is handed over lies in a block of its own of the list, or has no block. -/
mutual
def ResR(K:Bool->Nat->Prop)(w:World):AV->Value->List (Option Nat)->Prop
 | .v x,u,gs=>u=x/\gs=[]
 | .d fr t x,u,gs=>RT (K fr) w t [u] x/\gs=[]
 | .agg xs,u,gs=>∃us:List Value,u=.agg us.toArray/\ResRs K w xs us gs
 | .tup xs,u,gs=>∃us:List Value,u=.tuple us.toArray/\ResRs K w xs us gs
 | .ob T xs,u,gs=>∃b us gs',gs=some b :: gs'/\u=.pointer (some ⟨b,0,none⟩)/\Blk w b us T/\ResRs K w xs us gs'
 | .ow T fr t xs,u,gs=>∃g cs,gs=[g]/\u.oneCell'=true/\Own w T (sz t) g u xs.length cs/\AllR (RT (K fr) w t) cs xs
 | _,_,_=>False
def ResRs(K:Bool->Nat->Prop)(w:World):List AV->List Value->List (Option Nat)->Prop
 | [],us,gs=>us=[]/\gs=[]
 | a :: r,us,gs=>∃u us' g1 g2,us=u :: us'/\gs=g1++g2/\ResR K w a u g1/\ResRs K w r us' g2
end
def BL:List (Option Nat)->Prop
 | []=>True
 | g :: r=>(∀b,g=some b->some b ∉ r)/\BL r
def Mc(fr:Bool)(K:Nat->Prop)(w w':World)(gs:List (Option Nat))(k:Nat):Prop:=((fr=false/\K k)∨w.heap.size<=k)/\UFg w' w.heap.size k/\some k ∉ gs
def Ok(P:Program)(c:Ct):Prop:=AT P c.f=true/\∀(x:s8 c.ps),(c.res x).q->∀(w:World) (vs:List Value) (go:Option Nat) (K:Nat->Prop),(∀k,K k->k<w.heap.size)->ArgsR K w go c.ps x vs ->
 Calls P c.f vs.toArray w fun en w'=>∃v gs,en=.returned v/\WE go w w'/\BL gs/\(∀b,some b∈gs->w.heap.size<=b∨(C7 c.ps=true/\go=some b))/\ResR (fun fr=>Mc fr K w w' gs) w' (c.res x).r v gs /\
  IOR (fun k=>(K k∨w.heap.size<=k)/\UFg w' w.heap.size k/\some k ∉ gs/\go≠some k) w' go c.ps (c.res x).z
def AZ(o:List (Nat×Ob)):(p:m0)->AV->Option (K0O p×List Nat×Option Nat)
 | .dat t,a=>match B0 o 24 t [a] with
   | some (x,l,_)=>some (x,l,none)
   | none=>none
 | .agg t,.agg cs=>match B0 o 24 t cs with
   | some (x,l,_)=>some (x,l,none)
   | none=>none
 | .fn f c,.fn f' cs=>bif Nat.beq f f' then(match B0 o 24 c cs with
   | some (x,l,_)=>some (x,l,none)
   | none=>none) else none
 | .nof f,.fn f' []=>bif Nat.beq f f' then some ((),[],none) else none
 | .io T t,.ptr id 0=>match a8 o id with
   | some (.box T' cs)=>bif Nat.beq T T' then(match B0 o 24 t cs with
     | some (x,[],_)=>some (x,[],some id)
     | _=>none) else none
   | _=>none
 | .os E t,.os id ver=>match a8 o id with
   | some (.arr E' _ t' xs ver')=>bif Nat.beq E E'&&Nat.beq ver ver' then(match P6 (.sl t') (.sl t) xs with
     | some x=>some (x,[],some id)
     | none=>none) else none
   | _=>none
 | .nil,.v (.pointer none)=>some ((),[],none)
 | _,_=>none
def H2(o:List (Nat×Ob)):(ps:List m0)->List AV->Option (s8 ps×List Nat×Option Nat)
 | [],[]=>some ((),[],none)
 | p :: r,a :: as'=>match AZ o p a with
   | some (x,l,i)=>match H2 o r as' with
     | some (y,m,j)=>match i,j with
       | none,j=>some ((x,y),l++m,j)
       | some i,none=>some ((x,y),l++m,some i)
       | _,_=>none
     | none=>none
   | none=>none
 | _,_=>none
theorem DA{o:List (Nat×Ob)}:∀(n:Nat) {t:Ty} {cs:List AV} {x:c7 t} {l:List Nat} {fl:Bool},B0 o n t cs=some (x,l,fl)->∀id∈l,∃ob,a8 o id=some ob:=by
 intro n
 induction n with
 | zero=>grind[B0]
 | succ n i =>
   intro t cs x l fl h;have g:∀(t:Ty) (c:AV) (x:c7 t),X2 o (B0 o n) t c=some (x,l,fl)->∀id∈l,∃ob,a8 o id=some ob:=by
    intro t c x h;unfold X2 at h;split at h
    ·grind
    ·grind
    ·grind
    ·grind
    ·cases h
   have e:∀(t:Ty) (x:c7 t) (r:Option (c7 t×List Nat×Bool)),r=some (x,l,fl)->r=(match(generalizing:=false) cs with | [c]=>X2 o (B0 o n) t c | _=>none)->∀id∈l,∃ob,a8 o id=some ob:=by
    intro t x r f d;rw[f] at d;have h:=d.symm;split at h
    ·grind
    ·cases h
   cases t with
   | pr a b =>
     unfold B0 at h
     grind
   | _=>exact e _ _ _ h rfl
def S9(G:Gh)(ids:List Nat)(k:Nat):Prop:=G.K k∨∃id∈ids,G.γ id=some k
theorem HX{X:Cx}{G:Gh}(S:Sat X G){all:List Nat}(v:∀id∈all,∃ob,a8 G.o id=some ob):∀{ps:List m0} {as':List AV} {us:List Value} {x:s8 ps} {l:List Nat} {io:Option Nat},H2 G.o ps as'=some (x,l,io)->(∀id∈l,id∈all)->(∀i,io=some i->i ∉ all)->AVRs G as' us ->
  (∀id∈l,∃ob,a8 G.o id=some ob)/\∃go,ArgsR (S9 G all) G.w go ps x us/\((io=none/\go=none)∨(∃id b T cs,io=some id/\go=some b/\a8 G.o id=some (.box T cs)/\G.γ id=some b)∨∃id E fr t xs ver,io=some id/\go=G.γ id/\a8 G.o id=some (.arr E fr t xs ver)/\C7 ps=true)
 | [],[],us,x,l,io,h,hl,hio,hA=>by
   simp only[H2,oi,pj] at h;obtain⟨_,rfl,rfl⟩:=h;exact⟨(fun id h=>by cases h),none,⟨hA,rfl⟩,.inl ⟨rfl,rfl⟩⟩
 | [],_ :: _,us,x,l,io,h,hl,hio,hA=>by grind[H2]
 | _ :: _,[],us,x,l,io,h,hl,hio,hA=>by grind[H2]
 | p :: r,a :: as',us,x,l,io,h,hl,hio,hA=>by
   obtain⟨u,s,rfl,F,aB⟩:=hA;have hK:∀k,G.K k->S9 G all k:=fun k hk=>.inl hk;simp only[H2] at h;split at h
   ·rename_i x1 l1 i1 d;split at h
    ·rename_i y m j Y;have hx:x=(x1,y)/\l=l1++m/\((i1=none/\io=j)∨(∃i,i1=some i/\j=none/\io=some i)):=by
      split at h
      ·grind
      ·grind
      ·cases h
     obtain⟨rfl,rfl,q⟩:=hx;have aC:∀id∈l1,id∈all:=fun id P=>hl id (by grind);have hm:∀id∈m,id∈all:=fun id P=>hl id (by grind);have hB:∀id∈l1,∀b,G.γ id=some b->S9 G all b:=fun id P b Q=>.inr ⟨id,aC id P,Q⟩;obtain⟨aK,go,V,n⟩:=HX S v Y hm (fun i hi=>by
      grind) aB
     have f:(∀id∈l1,∃ob,a8 G.o id=some ob)->∀id∈l1++m,∃ob,a8 G.o id=some ob:=fun h id P=>by
      grind
     unfold AZ at d;split at d
     ·split at d
      ·rename_i x0 l0 f0 z;simp only[oi,pj] at d;obtain⟨rfl,rfl,rfl⟩:=d;refine⟨f (DA 24 z),go,⟨u,s,rfl,RT.up (BH S hK 24 z hB ⟨u,[],rfl,F,rfl⟩) (fun k h=>h.1),V⟩,?_⟩;rcases q with ⟨_,e⟩ | ⟨i',e,_⟩
       ·rw[e]; exact n
       grind
      grind
     ·split at d
      ·rename_i x0 l0 f0 z;simp only[oi,pj] at d;obtain⟨rfl,rfl,rfl⟩:=d;obtain⟨cs,rfl,g⟩:=F;refine⟨f (DA 24 z),go,⟨cs,s,rfl,RT.up (BH S hK 24 z hB g) (fun k h=>h.1),V⟩,?_⟩;rcases q with ⟨_,e⟩ | ⟨i',e,_⟩
       ·rw[e]; exact n
       grind
      grind
     ·rw[ce] at d;split at d
      ·rename_i hf;split at d
       ·rename_i x0 l0 f0 z;simp only[oi,pj] at d;obtain⟨rfl,rfl,rfl⟩:=d;obtain⟨cs,rfl,g⟩:=F;refine⟨f (DA 24 z),go,⟨cs,s,by simp_all,RT.up (BH S hK 24 z hB g) (fun k h=>h.1),V⟩,?_⟩;rcases q with ⟨_,e⟩ | ⟨i',e,_⟩
        ·rw[e]; exact n
        grind
       grind
      grind
     ·rw[ce] at d;split at d
      ·rename_i hf;simp only[oi,pj] at d;obtain⟨_,rfl,rfl⟩:=d;obtain⟨cs,rfl,g⟩:=F;have g:cs=[]:=g;subst g;refine⟨f (fun id h=>by cases h),go,⟨s,by simp_all,V⟩,?_⟩;rcases q with ⟨_,e⟩ | ⟨i',e,_⟩
       ·rw[e]; exact n
       grind
      grind
     ·rename_i T t id _;split at d
      ·rename_i T' cs H;rw[ce] at d;split at d
       ·rename_i hT;have hT:=nb hT;subst hT;split at d
        ·rename_i x0 f0 z;simp only[oi,pj] at d;obtain⟨rfl,rfl,rfl⟩:=d;rcases q with ⟨e,_⟩ | ⟨i',e,rfl,rfl⟩
         ·cases e
         cases e;obtain⟨_,b,Q,rfl⟩:=F;obtain⟨b',vs,W,g2,g3,g4⟩:=S.obs id _ H;rw[Q] at g2;cases g2;rcases n with ⟨_,rfl⟩ | ⟨_,_,_,_,e,_⟩ | ⟨_,_,_,_,_,_,e,_⟩
         ·refine⟨f (fun id h=>by cases h),some b,⟨b,vs,s,rfl,rfl,?_,g3,RT.up (BH S hK 24 z hB g4) (fun k h=>h.1),V⟩,.inr (.inl ⟨id,b,T,cs,rfl,rfl,H,W⟩)⟩;rintro(h | ⟨i2,Y,h3⟩)
          ·exact S.imm id _ b H W h
          ·obtain⟨aD,h4⟩:=v i2 Y;have:=S.inj i2 id _ _ b h4 H h3 W
           grind
         ·cases e
         grind
        grind
       grind
      grind
     ·rename_i E t id ver _;split at d
      ·rename_i E' fr t' xs aG H;rw[ce] at d;split at d
       ·rename_i Q;rw[ba] at Q;have e1:=nb Q.1;have e2:=nb Q.2;subst e1; subst e2;split at d
        ·rename_i x0 hc;simp only[oi,pj] at d;obtain⟨rfl,rfl,rfl⟩:=d;rcases q with ⟨e,_⟩ | ⟨i',e,rfl,rfl⟩
         ·cases e
         cases e;obtain⟨et,rfl⟩:=CB hc;cases et;obtain⟨aF,T1,aJ,t1,aI,aH,W,g2,g3⟩:=F;rw[H] at W;cases W;have F:=g3 rfl;obtain⟨cs,hO,aA,_⟩:=S.obs id _ H;rcases n with ⟨_,rfl⟩ | ⟨_,_,_,_,e,_⟩ | ⟨_,_,_,_,_,_,e,_⟩
         ·refine⟨f (fun id h=>by cases h),G.γ id,⟨u,cs,s,rfl,?_,aF,by grind,aA.mapR (fun c x h=>RT.up h (fun k hk=>.inl hk.1)),V⟩,.inr (.inr ⟨id,_,fr,_,_,_,rfl,rfl,H,rfl⟩)⟩;intro b hg;rintro(h | ⟨i2,Y,h3⟩)
          ·exact S.imm id _ b H hg h
          ·obtain⟨aD,h4⟩:=v i2 Y;have:=S.inj i2 id _ _ b h4 H h3 hg
           grind
         ·cases e
         grind
        grind
       grind
      grind
     ·simp only[oi,pj] at d;obtain⟨_,rfl,rfl⟩:=d;have F:u=.pointer none:=F;subst F;refine⟨f (fun id h=>by cases h),go,⟨s,rfl,V⟩,?_⟩;rcases q with ⟨_,e⟩ | ⟨i',e,_⟩
      ·rw[e]; exact n
      grind
     grind
    grind
   grind
end Go.Proofs.Xv
end
