/- Operations that make nothing: the function, and that it is right. Over any program. -/
import Derived.Test.YtphnknndgfgepaaGreatDoorXB6
section
namespace Go.Proofs.Xv
open Go Go.RowKit Go.Proofs.Sv
def C0I:IntKind->IntKind->Int->Option Int
 | .i64,.i64,n=>some n
 | .u8,.u8,n=>some n
 | .u8,.i64,n=>some n
 | .i64,.u8,n=>some (n % 256)
 | _,_,_=>none
def z0H(k k':IntKind)(n:Int):Prop×Int:=match C0I k k' n with
 | some m=>(True,m)
 | none=>(vcI k' n,n)
def z0d(a b:Int):Int:=min a b
def z0f(a b:Int):Int:=max a b
def A0M(l h:Int)(n:Nat):Prop:=0<=l/\l<=h/\h<=(n:Int)
def M5(st:St)(p:Pa):Option Operand->Option (Option Int)
 | none=>some none
 | some x=>match rd st p x with
   | some (.d _ (.int _) n)=>some (some n)
   | _=>none
def z0G{α:Type}(xs:List α):Option Int->Option Int->List α
 | none,none=>xs
 | some l,none=>xs.drop l.toNat
 | none,some h=>xs.take h.toNat
 | some l,some h=>(xs.take h.toNat).drop l.toNat
def h0V:Nat->Nat->Nat->List (Nat×Nat)
 | 0,_,_=>[]
 | m+1,k,s=>(k*s,s) :: h0V m (k+1) s
theorem k0P{s:Nat}:∀{m k i:Nat} {q:Nat×Nat},(h0V m k s)[i]?=some q->q=((k+i)*s,s)
 | 0,k,i,q,h=>by simp[h0V] at h
 | m+1,k,0,q,h=>by simp only[h0V,List.getElem?_cons_zero,oi] at h; rw[<- h]; rfl
 | m+1,k,i+1,q,h=>by
   simp only[h0V,List.getElem?_cons_succ] at h;have:=k0P h;rw[this,show k+1+i=k+(i+1) by omega]
theorem j0t{P:Program}{n:Nat}{e:Env}{ty:TypeId}{w:World}{T E s y s' y' m:Nat}{z z':Value}{parts:List (Nat×Operand)}{vs:List (Nat×Value)}{cs:List Value}(hU:P.underlying T=some (.array m E))[i:Info P T s y z][j:Info P E s' y' z'](hx:evp e parts=some vs)(hf:h0z (h0V m 0 s') z.cells.toList vs=some cs) :
  D7 P n e (.build T parts.toArray) ty w (.agg cs.toArray) w:=by
 intro a dst pos after g ha;obtain⟨inf,hinfo,h2,h3,h4⟩:=i.get;obtain⟨inf',hinfo',h2',_,_⟩:=j.get;have hfill:=j0R (h0V m 0 s') vs z.cells.toList cs hf;have hfill':=h0y (fun i:Nat=>(h0V m 0 s')[i]?) (fun i:Nat=>some (i*s',s')) vs _ _ (fun i p hp=>by rw[k0P hp,Nat.zero_add]) hfill;have e1:parts.toArray.map (fun(i,x)=>(i,a.eval x))=vs.toArray:=by rw[<- Agree.evp ha hx]; simp
 simp only[execOp,e1];simp only[Instr.build,Sem.run_bind,b0T w hinfo h4,Result.andThen,run_underlying hU,S7 w hinfo',h2'];rw[show z.cells=z.cells.toList.toArray by simp];simp only[hfill'];rfl
def s0s(ti:TI)(cs:List AV)(f:Nat):Option AV:=match ti.kd with
 | .agg pl _ ag=>match B5 pl f,B5 ag f with
   | some (off,s),some true=>bif Nat.ble (off+s) cs.length then some (.agg ((cs.drop off).take s)) else none
   | some (off,_),some false=>B5 cs off
   | _,_=>none
 | _=>none
def H7(Γ:m9)(st:St)(p:Pa):Op->Option (Prop×AV×List Nat)
 | .move x | .assign x=>match rd st p x with
   | some a=>some (True,a,[])
   | none=>none
 | .nilCheck x=>match rd st p x with
   | some v=>match T8 st.o v with
     | some (_,l)=>some (d0S st.o v,v,l)
     | none=>none
   | none=>none
 | .pick c a b=>match c with
   | .tmp s=>match rd st p (.tmp s),rd st ((s,true) :: p) a,rd st ((s,false) :: p) b with
     | some (.d _ .bool x),some (.d _ .bool y),some (.d _ .bool z)=>some (True,.d true .bool (r0S a b x y z),[])
     | _,_,_=>none
   | _=>none
 | .binOp op T x y _=>match rd st p x,rd st p y with
   | some u,some v=>match C0R (lku Γ T) op u v with
     | some (q,r)=>some (q,r,[])
     | none=>none
   | _,_=>none
 | .unOp .not _ x=>match rd st p x with
   | some (.d _ .bool b)=>some (True,.d true .bool (!b),[])
   | _=>none
 | .unOp .neg _ x=>match rd st p x with
   | some (.d _ (.int .i64) n)=>some (vcI .i64 (-n),.d true (.int .i64) (-n),[])
   | _=>none
 | .convert S T x=>match rd st p x,lku Γ S,lku Γ T with
   | some (.d _ (.int k) n),some ⟨_,_,_,.int _,_⟩,some ⟨_,_,_,.int k',_⟩=>match z0H k k' n with
     | (q,m)=>some (q,.d true (.int k') m,[])
   | some (.os id ver),some ⟨_,_,_,.sl E,_⟩,some ⟨_,_,_,.str,_⟩=>match lku st.o id,lku Γ E with
     | some (.arr _ _ (.int .u8) xs ver'),some ⟨_,_,_,.int .u8,_⟩=>bif Nat.beq ver ver' then some (0<xs.length,.d true .str (strOfNums xs),[id]) else none
     | _,_=>none
   | _,_,_=>none
 | .fieldAddr T x f=>match rd st p x,lku Γ T with
   | some v,some ⟨_,_,_,.agg pl _ _,_⟩=>match B5 pl f,T8 st.o v with
     | some (off,_),some (_,l)=>match u0H v off with
       | some r=>some (True,r,l)
       | none=>none
     | _,_=>none
   | _,_=>none
 | .load T x=>match rd st p x,lku Γ T with
   | some v,some ti=>match T8 st.o v with
     | some (cs,l)=>match ldA ti cs with
       | some r=>some (d0S st.o v,r,l)
       | none=>none
     | none=>none
   | _,_=>none
 | .indexAddr T x i=>match rd st p x,rd st p i with
   | some v,some (.d _ (.int _) n)=>A0w Γ st.o T v n
   | _,_=>none
 | .index T x i=>match rd st p x,rd st p i,lku Γ T with
   | some (.d _ .str s),some (.d _ (.int _) n),some ⟨_,_,_,.str,_⟩=>some (A0a n s.size,.d true (.int .u8) (B8 s n.toNat),[])
   | _,_,_=>none
 | .extract x i=>match rd st p x with
   | some (.tup l)=>match B5 l i with
     | some r=>some (True,r,[])
     | none=>none
   | _=>none
 | .field T x f=>match rd st p x,lku Γ T with
   | some (.agg cs),some ti=>match s0s ti cs f with
     | some r=>some (True,r,[])
     | none=>none
   | _,_=>none
 | .makeFunc (.func f) first cap=>match first.toList,rds st p cap.toList with
   | [],some l=>some (True,.fn f l,[])
   | _,_=>none
 | .build T parts=>match lku Γ T with
   | some ⟨_,_,z,.agg pl _ _,_⟩=>match Z0 z.cells.toList with
     | some cs=>match Z1 st p pl cs parts.toList with
       | some r=>some (True,.agg r,[])
       | none=>none
     | none=>none
   | some ⟨_,_,z,.arr m E,_⟩=>match lku Γ E,Z0 z.cells.toList with
     | some te,some cs=>match Z1 st p (h0V m 0 te.size) cs parts.toList with
       | some r=>some (True,.agg r,[])
       | none=>none
     | _,_=>none
   | _=>none
 | .slice T x l h none=>match rd st p x,M5 st p l,M5 st p h,lku Γ T with
   | some (.d fr (.sl t) xs),some lo,some hi,some ⟨_,_,_,.sl E,_⟩=>match lku Γ E with
     | some te=>bif Nat.beq te.size (sz t) then some (A0M (lo.getD 0) (hi.getD xs.length) xs.length,.d fr (.sl t) (z0G xs lo hi),[]) else none
     | none=>none
   | _,_,_,_=>none
 | .call ⟨.builtin .len,xs,Ts⟩=>match rds st p xs.toList,Ts.toList with
   | some [.d _ (.sl _) l],[T]=>match lku Γ T with
     | some ⟨_,_,_,.sl _,_⟩=>some (True,.d true (.int .i64) (l.length:Int),[])
     | _=>none
   | some [.os id ver],[T]=>match lku Γ T,lku st.o id with
     | some ⟨_,_,_,.sl _,_⟩,some (.arr _ _ _ l ver')=>bif Nat.beq ver ver' then some (True,.d true (.int .i64) (l.length:Int),[id]) else none
     | _,_=>none
   | some [.v (.slice none 0 0)],[T]=>match lku Γ T with
     | some ⟨_,_,_,.sl _,_⟩=>some (True,.d true (.int .i64) (0:Int),[])
     | _=>none
   | some [.d _ .str s],[T]=>match lku Γ T with
     | some ⟨_,_,_,.str,_⟩=>some (True,.d true (.int .i64) (s.size:Int),[])
     | _=>none
   | _,_=>none
 | .call ⟨.builtin .min,xs,_⟩=>match rds st p xs.toList with
   | some [.d _ (.int .i64) a,.d _ (.int .i64) b]=>some (True,.d true (.int .i64) (z0d a b),[])
   | _=>none
 | .call ⟨.builtin .max,xs,_⟩=>match rds st p xs.toList with
   | some [.d _ (.int .i64) a,.d _ (.int .i64) b]=>some (True,.d true (.int .i64) (z0f a b),[])
   | _=>none
 | _=>none
theorem AllR.takeD{α:Type}{R:List Value->α->Prop}{s:Nat}(hR:∀c x,R c x->c.length=s):∀{cs:List Value} {xs:List α} (k:Nat),AllR R cs xs->AllR R (cs.take (k*s)) (xs.take k)/\AllR R (cs.drop (k*s)) (xs.drop k)
 | cs,xs,0,h=>by simpa using (⟨rfl,h⟩:AllR R [] ([]:List α)/\AllR R cs xs)
 | cs,[],k+1,h=>by rw[show cs=[] from h]; simpa using (⟨rfl,rfl⟩:AllR R [] ([]:List α)/\AllR R [] ([]:List α))
 | _,x :: r,k+1,⟨c,d,e,h1,h2⟩=>by
   subst e;have hl:=hR _ _ h1;have e1:(k+1)*s=c.length+k*s:=by rw[hl,Nat.add_mul]; omega
   rw[e1,List.take_length_add_append,List.drop_length_add_append];have ih:=AllR.takeD hR k h2;exact⟨⟨c,_,rfl,h1,ih.1⟩,ih.2⟩
theorem AllR.cut{α:Type}{R:List Value->α->Prop}{s:Nat}(hR:∀c x,R c x->c.length=s){cs:List Value}{xs:List α}{l h:Nat}(hA:AllR R cs xs)(_h1:l<=h)(_h2:h<=xs.length):AllR R ((cs.take (h*s)).drop (l*s)) ((xs.take h).drop l) :=
 (AllR.takeD hR l (AllR.takeD hR h hA).1).2
theorem l3{n:Int}(h : -9223372036854775808<=n/\n<=9223372036854775807):lo .i64<=n/\n<=hi .i64:=h
theorem r0P{a b:Int}(h:InI a)(k:InI b):InI (z0d a b)/\InI (z0f a b):=by unfold InI z0d z0f at *; omega
theorem z0c(a b:Int):(if b<a then b else a)=z0d a b:=by unfold z0d; omega
theorem z0e(a b:Int):(if b > a then b else a)=z0f a b:=by unfold z0f; omega
section
variable {X:Cx} {G:Gh} {a:Act} {st:St} {Γ:m9} {p:Pa}
theorem e0a(hE:EnvR X.n G st.e a)(hp:PathP p a){o:Option Operand}{r:Option Int}(h:M5 st p o=some r):(o=none/\r=none)∨∃x n k,o=some x/\r=some n/\a.eval x=.int k n:=by
 unfold M5 at h;split at h
 ·simp at h; exact .inl ⟨rfl,h.symm⟩
 ·rename_i x;split at h
  ·rename_i k n hx;simp at h;exact .inr ⟨x,n,k,rfl,h.symm,(C7 (B9 hE hp hx)).1⟩
  ·cases h
theorem s0G{α:Type}(xs:List α)(lo hi:Option Int)(h:A0M (lo.getD 0) (hi.getD xs.length) xs.length):z0G xs lo hi=(xs.take (hi.getD xs.length).toNat).drop (lo.getD 0).toNat:=by
 cases lo <;> cases hi <;> simp[z0G]
theorem m0d(hΓ:x6 X.P Γ)(hE:EnvR X.n G st.e a)(hp:PathP p a){T E ty:TypeId}{s0 y0:Nat}{z0:Value}{ty0:Ty}{x:Operand}{l h:Option Operand}{lo hi:Option Int}{fr:Bool}{t:Ty}{xs:List (den t)}{te:TI}
  (hT:lku Γ T=some ⟨s0,y0,z0,.sl E,ty0⟩) (hte:lku Γ E=some te) (hs:te.size=sz t) (hx:AVR G (.d fr (.sl t) xs) (a.eval x)) (hl:M5 st p l=some lo) (hh:M5 st p h=some hi) (hq:A0M (lo.getD 0) (hi.getD xs.length) xs.length) :
  Val X G a (.slice T x l h none) ty (.d fr (.sl t) (z0G xs lo hi)):=by
 obtain⟨pp,cap,hv,hle,hmax,h4⟩:=id hx;simp only[List.cons.injEq,and_true] at hv;have hU:=(hΓ T _ hT).2.2.2.2.2;have hI:Info X.P E te.size te.bytes te.zero:=⟨(hΓ E _ hte).1⟩;obtain⟨inf,hinfo,h2,h3,h5⟩:=hI.get;rw[s0G xs lo hi hq];obtain⟨q1,q2,q3⟩:=hq;have hl':(∃n k,l=some n/\a.eval n=.int k (lo.getD 0))∨(l=none/\lo.getD 0=0):=by
  rcases e0a hE hp hl with ⟨e1,e2⟩ | ⟨y,n,k,e1,e2,e3⟩
  ·exact .inr ⟨e1,by rw[e2]; rfl⟩
  ·exact .inl ⟨y,k,e1,by rw[e2]; exact e3⟩
 have hh':(∃n k,h=some n/\a.eval n=.int k (hi.getD xs.length))∨(h=none/\hi.getD xs.length=(xs.length:Int)):=by
  rcases e0a hE hp hh with ⟨e1,e2⟩ | ⟨y,n,k,e1,e2,e3⟩
  ·exact .inr ⟨e1,by rw[e2]; rfl⟩
  ·exact .inl ⟨y,k,e1,by rw[e2]; exact e3⟩
 generalize lo.getD 0=l0 at *
 generalize hi.getD xs.length=h0 at *
 have r1:∀(y:Nat) (code:BoundsCode) (k:IntKind),h0<=y->(Instr.sliceBound (.int k h0) y code).run X.P G.w=.ok h0.toNat G.w:=fun y code k hy=>run_sliceBound (P:=X.P) (w:=G.w) k h0 y code (by omega) hy;have r2:∀(y:Nat) (code:BoundsCode) (k:IntKind),l0<=y->(Instr.sliceBound (.int k l0) y code).run X.P G.w=.ok l0.toNat G.w:=fun y code k hy=>run_sliceBound (P:=X.P) (w:=G.w) k l0 y code q1 hy;have hrun:∀dst pos after g,(execOp a.eval ⟨dst,.slice T x l h none,ty,pos,after,g⟩).run X.P G.w=.ok (.value (.slice (if cap=l0.toNat then pp else pp.map (·.add (l0.toNat*te.size))) (h0.toNat-l0.toNat) (cap-l0.toNat))) G.w:=by
  intro dst pos after g;rcases hl' with ⟨n1,k1,rfl,e1⟩ | ⟨rfl,e1⟩ <;> rcases hh' with ⟨n2,k2,rfl,e2⟩ | ⟨rfl,e2⟩
  ·simp[execOp,hv,Instr.sliceAt,Instr.slice,Instr.sliceBounds,run_underlying hU,Result.andThen,S7 G.w hinfo,h2,e1,e2,r1 cap .sliceAcap k2 (by omega),r2 h0.toNat .sliceB k1 (by omega)]
  ·have:h0.toNat=xs.length:=by omega
   simp[execOp,hv,Instr.sliceAt,Instr.slice,Instr.sliceBounds,run_underlying hU,Result.andThen,S7 G.w hinfo,h2,e1,this,r2 xs.length .sliceB k1 (by omega)]
  ·simp[execOp,hv,Instr.sliceAt,Instr.slice,Instr.sliceBounds,run_underlying hU,Result.andThen,S7 G.w hinfo,h2,e1,e2,r1 cap .sliceAcap k2 (by omega)]
  ·have:h0.toNat=xs.length:=by omega
   simp[execOp,hv,Instr.sliceAt,Instr.slice,Instr.sliceBounds,run_underlying hU,Result.andThen,S7 G.w hinfo,h2,e1,this]
 refine⟨_,hrun,?_⟩;have hlen:((xs.take h0.toNat).drop l0.toNat).length=h0.toNat-l0.toNat:=by rw[List.length_drop,List.length_take]; omega
 rw[<- hlen];refine⟨_,_,rfl,by rw[hlen]; omega,by omega,?_⟩;by_cases hc:cap=l0.toNat
 ·left;exact List.eq_nil_of_length_eq_zero (by rw[hlen]; omega)
 ·rcases h4 with h4 | ⟨b,o,ds,rfl,hb,hat,hall⟩
  ·left; subst h4; simp
  ·right;have hR:=fun(c:List Value) (y:den t) (hy:RT (rg G fr) G.w t c y)=>RT.len hy;refine⟨b,o+l0.toNat*te.size,(ds.take (h0.toNat*sz t)).drop (l0.toNat*sz t),?_,hb,?_,?_⟩
   ·rw[if_neg hc];simp only[Option.map_some,oi];unfold Addr.add;split
    ·rename_i h0; rw[h0]; rfl
    ·rfl
   ·rw[hs]; exact m0O (m0N hat _) _
   ·exact AllR.cut hR hall (by omega) (by omega)
theorem m0v(hE:EnvR X.n G st.e a){T ty:TypeId}{x ix:Operand}{s:ByteArray}{n:Int}{f g:Bool}{k:IntKind}(hT:X.P.underlying T=some .string)(hx:AVR G (.d f .str s) (a.eval x))(hn:AVR G (.d g (.int k) n) (a.eval ix))(hq:A0a n s.size) :
  Val X G a (.index T x ix) ty (.d true (.int .u8) (B8 s n.toNat)):=by
 haveI:h0P X.P T:=⟨hT⟩
 have hxe:ev (C3 a [x,ix]) x=some (a.eval x):=I0 (by simp);have hye:ev (C3 a [x,ix]) ix=some (a.eval ix):=I0 (by simp);rw[(j0Z hx).1] at hxe;rw[(C7 hn).1] at hye;obtain⟨i,rfl⟩:=Int.eq_ofNat_of_zero_le hq.1;have hi:i<s.size:=by have:=hq.2; omega
 exact B0 hE [x,ix] (p0n hxe hye hi) ⟨rfl,s0R _ _,s0S _ _⟩
theorem p0H(_hE:EnvR X.n G st.e a){S T ty:TypeId}{x:Operand}{f:Bool}{k k0 k':IntKind}{n m:Int}(hS:X.P.underlying S=some (.int k0))(hT:X.P.underlying T=some (.int k'))(hx:AVR G (.d f (.int k) n) (a.eval x)){q:Prop}(h:z0H k k' n=(q,m))(hq:q) :
  Val X G a (.convert S T x) ty (.d true (.int k') m):=by
 obtain⟨hv,h1⟩:=C7 hx;have hw:k'.wrap n=m/\lo k'<=m/\m<=hi k':=by
  unfold z0H at h;split at h
  case h_2 =>
   simp only[pj] at h;obtain⟨rfl,rfl⟩:=h;exact⟨j0f _ hq,hq⟩
  rename_i m' h';simp only[pj] at h;obtain⟨_,rfl⟩:=h;have h:=h';unfold C0I at h;split at h <;> simp only[oi,reduceCtorEq] at h
  ·subst h; exact⟨IntWalk.i64_in _ h1,h1⟩
  ·subst h; exact⟨IntWalk.u8_in _ h1,h1⟩
  ·subst h;simp only[lo,hi] at h1 ⊢;exact⟨IntWalk.i64_in _ (by omega),by omega,by omega⟩
  ·subst h;simp only[lo,hi];exact⟨IntKind.wrap_u8 _,by omega,by omega⟩
 refine⟨.int k' m,fun dst pos after g=>?_,rfl,hw.2⟩;rw[<- hw.1];simp[execOp,hv,convert,run_underlying hT,run_underlying hS,Conv.intToInt,Result.andThen]
theorem m0a(S:Sat X G)(hE:EnvR X.n G st.e a){S0 T E ty T':TypeId}{x:Operand}{id ver:Nat}{fr:Bool}{xs:List Int}(hS:X.P.underlying S0=some (.slice E))(hE':X.P.underlying E=some (.int .u8))(hT:X.P.underlying T=some .string)(hx:AVR G (.os id ver) (a.eval x))(ho:lku G.o id=some (.arr T' fr (.int .u8) xs ver))(hq:0<xs.length) :
  Val X G a (.convert S0 T x) ty (.d true .str (strOfNums xs)):=by
 obtain⟨_,T2,fr2,t2,xs2,ver2,g1,g2,g3⟩:=hx;rw[ho] at g1;cases g1;have hx:=g3 rfl;obtain⟨cs,hO,hA,_⟩:=S.obs id _ ho;have hcs:∀{xs:List Int} {cs:List Value},AllR (RT (rg G fr) G.w (.int .u8)) cs xs->cs=xs.map (Value.int .u8):=by
  intro xs
  induction xs with
  | nil=>intro cs h; exact h
  | cons x r ih =>
    rintro cs ⟨c,d,e,h1,h2⟩;rw[e,h1.1,ih h2]; rfl
 have hcs:=hcs hA;subst hcs
 haveI:Y6 X.P S0 E:=⟨hS⟩
 haveI:z0Y X.P E:=⟨hE'⟩
 haveI:h0P X.P T:=⟨hT⟩
 rcases hO with ⟨_,h0,_⟩ | ⟨b,o,cap,cur,hb,hv,h1,h2,h3,h4,h5⟩
 ·omega
 ·have hO2:Own G.w T' 1 (some b) (G.ρ id) xs.length (xs.map (Value.int .u8)):=.inr ⟨b,o,cap,cur,rfl,hv,h1,h2,h3,h4,h5⟩;obtain⟨o2,cap2,e2,hAt⟩:=hO2.at;have hxe:ev (C3 a [x]) x=some (.slice (some ⟨b,o2,none⟩) xs.length cap2):=by rw[I0 (by simp),hx,e2]
  refine B0 hE [x] (p0k hxe rfl hAt) ⟨rfl,?_⟩;rw[strOfNums_size];have:cap<=9223372036854775807:=h3;omega
theorem h0A(hΓ:x6 X.P Γ)(S:Sat X G)(hE:EnvR X.n G st.e a){T ty:TypeId}{x:Operand}{f off s0 y0 s1:Nat}{z0:Value}{ty0:Ty}{pl:List (Nat×Nat)}{e0:Bool}{ag0:List Bool}{v r:AV}{cs:List AV}{l:List Nat}
  (hT:lku Γ T=some ⟨s0,y0,z0,.agg pl e0 ag0,ty0⟩) (hf:B5 pl f=some (off,s1)) (hx:AVR G v (a.eval x)) (hd:T8 G.o v=some (cs,l)) (hm:u0H v off=some r):Val X G a (.fieldAddr T x f) ty r:=by
 obtain⟨b,o,hv,hr⟩:=p0w S hd hm hx;have hk:=(hΓ T _ hT).2.2.2.2.2.2.2.1;rw[S9] at hf
 haveI:t0i X.P T f off:=⟨by have:=g0h hk hf; simpa using this⟩
 have hxe:ev (C3 a [x]) x=some (.pointer (some ⟨b,o,none⟩)):=by rw[I0 (by simp),hv]
 exact B0 hE [x] (h0U hxe) hr
theorem k0J{P:Program}{w:World}{T:TypeId}{i:TypeInfo}{xs:Array Value}{off:Nat}(ha:t0s P T=true)(hi:P.info? T=some i):(part T xs off).run P w=.ok (.agg (xs.extract off (off+i.size))) w:=by
 unfold t0s at ha;split at ha
 ·rename_i hu;simp[part,Go.isAgg,run_underlying hu,S7 w hi,Result.andThen]
 ·rename_i hu;simp[part,Go.isAgg,run_underlying hu,S7 w hi,Result.andThen]
 ·cases ha
theorem k0I{P:Program}{w:World}{T:TypeId}{xs:Array Value}{off:Nat}{v:Value}(ha:X6 P T=true)(hx:xs[off]?=some v):(part T xs off).run P w=.ok v w:=by
 unfold X6 at ha;cases hu:P.underlying T with
 | none=>simp[hu] at ha
 | some d=>cases d <;> simp[hu] at ha <;> simp[part,Go.isAgg,run_underlying hu,hx]
theorem m0C(hE:EnvR X.n G st.e a){T ty:TypeId}{ti:TI}{x:Operand}{f:Nat}{cs:List AV}{r:AV}(hT:u0 X.P T ti)(hx:AVR G (.agg cs) (a.eval x))(h:s0s ti cs f=some r):Val X G a (.field T x f) ty r:=by
 obtain⟨_,_,_,_,hk⟩:=hT;obtain⟨us,eu,hA⟩:=hx;unfold s0s at h;split at h
 ·rename_i pl e ag hkd;rw[hkd] at hk;obtain⟨_,h2,h3,_,_,h6⟩:=hk;unfold g0Z at h2;unfold g0I at h3;unfold C0T at h6;split at h2
  ·rename_i fs hu;simp only[hu,oi] at h2 h3 h6;have key:∀{off s:Nat} {b:Bool},B5 pl f=some (off,s)->B5 ag f=some b->∃fl i,fs[f]?=some fl/\X.P.info? fl.type=some i/\off=fl.offset/\s=i.size/\t0s X.P fl.type=b/\X6 X.P fl.type=!b:=by
    intro off s b g1 g2;rw[S9] at g1 g2;rw[<- h2,List.getElem?_map] at g1;have g3:(fs.toList.map fun f=>(t0s X.P f.type,X6 X.P f.type))[f]?=some (b,!b):=by rw[h6,List.getElem?_map,g2]; rfl
    rw[List.getElem?_map] at g3;cases hf:fs.toList[f]? with
    | none=>rw[hf] at g1; cases g1
    | some fl =>
      rw[hf] at g1 g3;simp only[Option.map_some,oi,pj] at g1 g3;have h3:=List.all_eq_true.1 h3 fl (List.mem_of_getElem? hf);cases hi:X.P.info? fl.type with
      | none=>rw[hi] at h3; cases h3
      | some i =>
        rw[hi] at g1;exact⟨fl,i,by simpa using hf,hi,g1.1.symm,g1.2.symm,g3.1,g3.2⟩
   have hxe:ev (C3 a [x]) x=some (.agg us.toArray):=by rw[I0 (by simp),eu]
   split at h
   ·rename_i off s g1 g2;obtain⟨fl,i,hf,hi,rfl,rfl,hb,_⟩:=key g1 g2;rw[ce] at h;split at h
    ·simp only[oi] at h; subst h;refine B0 hE [x] (v:=.agg (us.toArray.extract fl.offset (fl.offset+i.size))) ?_ ⟨(us.drop fl.offset).take i.size,?_,?_⟩
     ·intro ac dst pos after g ha;simp only[execOp,ha.ev hxe];simp[Instr.field,run_underlying hu,hf,asAgg,k0J hb hi]
     ·congr 1;apply Array.ext';simp
     ·exact((hA.take fl.offset).2.take i.size).1
    ·cases h
   ·rename_i off s g1 g2;obtain⟨fl,i,hf,hi,rfl,rfl,_,hb⟩:=key g1 g2;rw[S9] at h;obtain⟨u,hu',hr⟩:=hA.get h;refine B0 hE [x] (v:=u) ?_ hr;intro ac dst pos after g ha;simp only[execOp,ha.ev hxe];simp[Instr.field,run_underlying hu,hf,asAgg,k0I hb (show us.toArray[fl.offset]?=some u by simpa using hu')]
   ·cases h
  ·cases h2
 ·cases h
theorem l0D(hΓ:x6 X.P Γ)(hE:EnvR X.n G st.e a)(hp:PathP p a){T ty:TypeId}{s0 y0:Nat}{z0:Value}{ty0:Ty}{pl:List (Nat×Nat)}{e0:Bool}{ag0:List Bool}{parts:Array (Nat×Operand)}{cs r:List AV}
  (hT:lku Γ T=some ⟨s0,y0,z0,.agg pl e0 ag0,ty0⟩) (hz:Z0 z0.cells.toList=some cs) (hb:Z1 st p pl cs parts.toList=some r):Val X G a (.build T parts) ty (.agg r):=by
 obtain⟨ws,h1,h2⟩:=e0K hE hp hb (b0Q (G:=G) hz);have hk:=(hΓ T _ hT)
 haveI:Info X.P T s0 y0 z0:=⟨hk.1⟩
 haveI:o0R X.P T pl:=⟨hk.2.2.2.2.2.1,hk.2.2.2.2.2.2.1⟩
 have he:=j0T (a:=a) (xs:=parts.toList.map (·.2)) (ps:=parts.toList) (fun q hq=>List.mem_map_of_mem hq);have hr:=p0p (P:=X.P) (T:=T) (n:=X.n) (w:=G.w) (ty:=ty) he h1;rw[Array.toArray_toList] at hr;exact B0 hE _ hr ⟨ws,rfl,h2⟩
theorem i0e(hΓ:x6 X.P Γ)(hE:EnvR X.n G st.e a)(hp:PathP p a){T E ty:TypeId}{s0 y0 m:Nat}{z0:Value}{ty0:Ty}{te:TI}{parts:Array (Nat×Operand)}{cs r:List AV}
  (hT:lku Γ T=some ⟨s0,y0,z0,.arr m E,ty0⟩) (hte:lku Γ E=some te) (hz:Z0 z0.cells.toList=some cs) (hb:Z1 st p (h0V m 0 te.size) cs parts.toList=some r):Val X G a (.build T parts) ty (.agg r):=by
 obtain⟨ws,h1,h2⟩:=e0K hE hp hb (b0Q (G:=G) hz)
 haveI:Info X.P T s0 y0 z0:=⟨(hΓ T _ hT).1⟩
 haveI:Info X.P E te.size te.bytes te.zero:=⟨(hΓ E _ hte).1⟩
 have he:=j0T (a:=a) (xs:=parts.toList.map (·.2)) (ps:=parts.toList) (fun q hq=>List.mem_map_of_mem hq);have hr:=j0t (P:=X.P) (T:=T) (n:=X.n) (w:=G.w) (ty:=ty) (hΓ T _ hT).2.2.2.2.2 he h1;rw[Array.toArray_toList] at hr;exact B0 hE _ hr ⟨ws,rfl,h2⟩
theorem i0a(hE:EnvR X.n G st.e a)(hp:PathP p a){f:FuncId}{first cap:Array Operand}{ty:TypeId}{l:List AV}(h0:first.toList=[])(hl:rds st p cap.toList=some l):Val X G a (.makeFunc (.func f) first cap) ty (.fn f l):=by
 have hA:=b0h hE hp hl;refine⟨.func (.func f) #[] (cap.toList.map a.eval).toArray,fun dst pos after g=>?_,_,rfl,hA⟩;have e1:first=#[]:=by cases first; simp_all
 have e2:cap.map a.eval=(cap.toList.map a.eval).toArray:=by rw[<- Array.toList_map]
 subst e1;simp only[execOp,Instr.makeFunc,e2];simp
theorem x0V{xs:Array Operand}{u:Value}(h:xs.toList.map a.eval=[u]):xs.map a.eval=#[u]:=by
 apply Array.ext'; simpa using h
theorem f0N{T ty:TypeId}{E:TypeId}{xs:Array Operand}{Ts:Array TypeId}{p0:Option Addr}{m c:Nat}(hT:X.P.underlying T=some (.slice E))(hx:xs.toList.map a.eval=[.slice p0 m c])(hTs:Ts.toList=[T])(hm:m<=9223372036854775807) :
  Val X G a (.call ⟨.builtin .len,xs,Ts⟩) ty (.d true (.int .i64) (m:Int)):=by
 have e1:=x0V hx;have e2:Ts=#[T]:=Array.ext' (by simpa using hTs);subst e2;refine⟨.int .i64 m,fun dst pos after g=>?_,rfl,l3 (by omega)⟩;simp only[execOp,resolve,e1];simp[invoke,builtin,Builtin.len_,run_underlying hT,goInt,Result.andThen]
theorem p0y{T ty:TypeId}{xs:Array Operand}{Ts:Array TypeId}{s:ByteArray}(hT:X.P.underlying T=some .string)(hx:xs.toList.map a.eval=[.string s])(hTs:Ts.toList=[T])(hm:s.size<=9223372036854775807) :
  Val X G a (.call ⟨.builtin .len,xs,Ts⟩) ty (.d true (.int .i64) (s.size:Int)):=by
 have e1:=x0V hx;have e2:Ts=#[T]:=Array.ext' (by simpa using hTs);subst e2;refine⟨.int .i64 s.size,fun dst pos after g=>?_,rfl,l3 (by omega)⟩;simp only[execOp,resolve,e1];simp[invoke,builtin,Builtin.len_,run_underlying hT,goInt,Result.andThen]
theorem g0g{ty:TypeId}{xs:Array Operand}{Ts:Array TypeId}{u v:Int}(hx:xs.toList.map a.eval=[.int .i64 u,.int .i64 v])(hu:InI u)(hv:InI v) :
  Val X G a (.call ⟨.builtin .min,xs,Ts⟩) ty (.d true (.int .i64) (z0d u v))/\Val X G a (.call ⟨.builtin .max,xs,Ts⟩) ty (.d true (.int .i64) (z0f u v)):=by
 have e1:xs.map a.eval=#[.int .i64 u,.int .i64 v]:=by apply Array.ext'; simpa using hx
 refine⟨⟨.int .i64 (z0d u v),fun dst pos after g=>?_,rfl,(r0P hu hv).1⟩,⟨.int .i64 (z0f u v),fun dst pos after g=>?_,rfl,(r0P hu hv).2⟩⟩
 ·rw[<- z0c];simp only[execOp,resolve,e1];simp[invoke,builtin,Builtin.min_,Builtin.min2]
 ·rw[<- z0e];simp only[execOp,resolve,e1];simp[invoke,builtin,Builtin.max_,Builtin.max2]
end
theorem p0M{X:Cx}{G:Gh}{a:Act}{st:St}{Γ:m9}{p:Pa}(hΓ:x6 X.P Γ)(S:Sat X G)(ho:G.o=st.o)(hE:EnvR X.n G st.e a)(hp:PathP p a){op:Op}{ty:TypeId}{q:Prop}{r:AV}{l:List Nat}
  (h:H7 Γ st p op=some (q,r,l)) (hq:q):Val X G a op ty r:=by
 unfold H7 at h;split at h
 ·rename_i x;split at h
  ·rename_i v hv;simp only[oi,pj] at h;obtain⟨_,rfl,_⟩:=h;exact B0 hE [x] (b0g (by simp only[X5]; exact I0 (by simp))) (B9 hE hp hv)
  ·cases h
 ·rename_i x;split at h
  ·rename_i v hv;simp only[oi,pj] at h;obtain⟨_,rfl,_⟩:=h;exact B0 hE [x] (b0g (by simp only[X5]; exact I0 (by simp))) (B9 hE hp hv)
  ·cases h
 ·rename_i x;split at h
  ·rename_i v hv;split at h
   ·rename_i cs l' hd;simp only[oi,pj] at h;obtain⟨rfl,rfl,_⟩:=h;rw[<- ho] at hd hq;have hx:=B9 hE hp hv;obtain⟨b,o,us,e,_⟩:=e0C S hd hq hx;have hxe:ev (C3 a [x]) x=some (.pointer (some ⟨b,o,none⟩)):=by rw[I0 (by simp),e]
    rw[e] at hx;exact B0 hE [x] (j0r hxe) hx
   ·cases h
  ·cases h
 ·rename_i c x y;split at h
  ·rename_i s;split at h
   ·rename_i f1 vx f2 vy f3 vz h1 h2 h3;simp only[oi,pj] at h;obtain⟨_,rfl,_⟩:=h;have e1:=b0x (B9 hE hp h1);rw[r0R h2 h3];have hc:ev (C3 a [.tmp s,x,y]) (.tmp s)=some (.bool vx):=by rw[I0 (by simp),e1]
    cases vx with
    | true =>
      have hp':PathP ((s,true) :: p) a:=by
       intro z hz;rcases List.mem_cons.1 hz with rfl | hz
       ·exact e1
       ·exact hp z hz
      have e2:=b0x (B9 hE hp' h2);exact B0 hE [.tmp s,x,y] (v:=.bool vy) (b0g (by simp only[X5,hc]; rw[I0 (by simp),e2])) rfl
    | false =>
      have hp':PathP ((s,false) :: p) a:=by
       intro z hz;rcases List.mem_cons.1 hz with rfl | hz
       ·exact e1
       ·exact hp z hz
      have e2:=b0x (B9 hE hp' h3);exact B0 hE [.tmp s,x,y] (v:=.bool vz) (b0g (by simp only[X5,hc]; rw[I0 (by simp),e2])) rfl
   ·cases h
  ·cases h
 ·split at h
  ·rename_i u v h1 h2;split at h
   ·rename_i q' r' hb;simp only[oi,pj] at h;obtain⟨rfl,rfl,_⟩:=h;exact p0J hE (fun t ht=>hΓ _ t ht) (B9 hE hp h1) (B9 hE hp h2) hb hq
   ·cases h
  ·cases h
 ·rename_i x;split at h
  ·rename_i f b h1;simp only[oi,pj] at h;obtain⟨_,rfl,_⟩:=h;have e1:=b0x (B9 hE hp h1);have hxe:ev (C3 a [x]) x=some (.bool b):=by rw[I0 (by simp),e1]
   exact B0 hE [x] (b0g (by simp only[X5,hxe])) rfl
  ·cases h
 ·rename_i x;split at h
  ·rename_i f n h1;simp only[oi,pj] at h;obtain⟨rfl,rfl,_⟩:=h;have e1:=(C7 (B9 hE hp h1)).1;have hxe:ev (C3 a [x]) x=some (.int .i64 n):=by rw[I0 (by simp),e1]
   exact B0 hE [x] (u0g hxe hq) ⟨rfl,hq⟩
  ·cases h
 ·split at h
  ·rename_i f k n _ _ _ k0 _ _ _ _ k' _ h1 h2 h3;split at h;rename_i q' m hm;simp only[oi,pj] at h;obtain⟨rfl,rfl,_⟩:=h;exact p0H hE (hΓ _ _ h2).2.2.2.2.2 (hΓ _ _ h3).2.2.2.2.2 (B9 hE hp h1) hm hq
  ·rename_i id ver _ _ _ E _ _ _ _ _ h1 h2 h3;split at h
   ·rename_i E' fr xs ver' _ _ _ _ h4 h5;rw[ce] at h;split at h
    ·rename_i hv;have hv:=nb hv;subst hv;simp only[oi,pj] at h;obtain⟨rfl,rfl,_⟩:=h;exact m0a S hE (hΓ _ _ h2).2.2.2.2.2 (hΓ _ _ h5).2.2.2.2.2 (hΓ _ _ h3).2.2.2.2.2 (B9 hE hp h1) (by rw[ho]; exact h4) hq
    ·cases h
   ·cases h
  ·cases h
 ·split at h
  ·rename_i v _ _ _ pl _ h1 h2;split at h
   ·rename_i off s1 cs l' hf hd;split at h
    ·rename_i r' hm;simp only[oi,pj] at h;obtain⟨_,rfl,_⟩:=h;rw[<- ho] at hd;exact h0A hΓ S hE h2 hf (B9 hE hp h1) hd hm
    ·cases h
   ·cases h
  ·cases h
 ·split at h
  ·rename_i v ti h1 h2;split at h
   ·rename_i cs l' hd;split at h
    ·rename_i r' hm;simp only[oi,pj] at h;obtain⟨rfl,rfl,_⟩:=h;rw[<- ho] at hd hq;obtain⟨b,o,us,e,hat,hA⟩:=e0C S hd hq (B9 hE hp h1);exact o0i hE (hΓ _ _ h2) e hat hA hm
    ·cases h
   ·cases h
  ·cases h
 ·split at h
  ·rename_i v f k n h1 h2;rw[<- ho] at h;exact s0f hΓ S hE (B9 hE hp h1) (B9 hE hp h2) h hq
  ·cases h
 ·split at h
  ·rename_i f s g k n _ _ _ _ h1 h2 h3;simp only[oi,pj] at h;obtain⟨rfl,rfl,_⟩:=h;exact m0v hE (hΓ _ _ h3).2.2.2.2.2 (B9 hE hp h1) (B9 hE hp h2) hq
  ·cases h
 ·rename_i x i;split at h
  ·rename_i l' h1;split at h
   ·rename_i r' h2;simp only[oi,pj] at h;obtain⟨_,rfl,_⟩:=h;obtain⟨us,e,hA⟩:=B9 hE hp h1;rw[S9] at h2;obtain⟨u,hu,hr⟩:=hA.get h2;have hxe:ev (C3 a [x]) x=some (.tuple us.toArray):=by rw[I0 (by simp),e]
    exact B0 hE [x] (b0g (by simp only[X5,hxe]; simpa using hu)) hr
   ·cases h
  ·cases h
 ·split at h
  ·rename_i cs ti h1 h2;split at h
   ·rename_i r' h3;simp only[oi,pj] at h;obtain⟨_,rfl,_⟩:=h;exact m0C hE (hΓ _ _ h2) (B9 hE hp h1) h3
   ·cases h
  ·cases h
 ·split at h
  ·rename_i l' h1 h2;simp only[oi,pj] at h;obtain⟨_,rfl,_⟩:=h;exact i0a hE hp h1 h2
  ·cases h
 ·split at h
  ·rename_i h1;split at h
   ·rename_i cs h2;split at h
    ·rename_i r' h3;simp only[oi,pj] at h;obtain⟨_,rfl,_⟩:=h;exact l0D hΓ hE hp h1 h2 h3
    ·cases h
   ·cases h
  ·rename_i h1;split at h
   ·rename_i te cs h4 h2;split at h
    ·rename_i r' h3;simp only[oi,pj] at h;obtain⟨_,rfl,_⟩:=h;exact i0e hΓ hE hp h1 h4 h2 h3
    ·cases h
   ·cases h
  ·cases h
 ·split at h
  ·rename_i h1 h2 h3 h4;split at h
   ·rename_i te h5;rw[ce] at h;split at h
    ·rename_i h6;simp only[oi,pj] at h;obtain⟨rfl,rfl,_⟩:=h;exact m0d hΓ hE hp h4 h5 (nb h6) (B9 hE hp h1) h2 h3 hq
    ·cases h
   ·cases h
  ·cases h
 ·rename_i xs Ts;split at h
  ·rename_i f t l' T h1 h2;split at h
   ·rename_i h3;simp only[oi,pj] at h;obtain⟨_,rfl,_⟩:=h;obtain⟨u,us',e,hu,hr⟩:=b0h hE hp h1;have:us'=[]:=hr;subst this;obtain⟨p0,cap,hv,hle,hmax,_⟩:=hu;simp only[List.cons.injEq,and_true] at hv;rw[hv] at e;exact f0N (hΓ _ _ h3).2.2.2.2.2 e h2 (by omega)
   ·cases h
  ·rename_i id ver T h1 h2;split at h
   ·rename_i _ _ _ _ T' fr t l' ver' h3 h4;rw[ce] at h;split at h
    ·rename_i hv;have hv:=nb hv;simp only[oi,pj] at h;obtain⟨_,rfl,_⟩:=h;obtain⟨u,us',e,hu,hr⟩:=b0h hE hp h1;have:us'=[]:=hr;subst this;obtain⟨_,T1,fr1,t1,xs1,ver1,g1,g2,g3⟩:=hu;rw[<- ho] at h4;rw[h4] at g1;cases g1;have hu:=g3 hv;obtain⟨cs,hO,_,_⟩:=S.obs id _ h4;have hmax:l'.length<=9223372036854775807:=by
      rcases hO with ⟨_,hn,_⟩ | ⟨b,o,cap,cur,_,_,_,hle,hmax,_⟩
      ·omega
      ·simp only[maxLen] at hmax; omega
     obtain⟨p0,c0,hv2⟩:=hO.len;rw[hu,hv2] at e;exact f0N (hΓ _ _ h3).2.2.2.2.2 e h2 hmax
    ·cases h
   ·cases h
  ·rename_i T h1 h2;split at h
   ·rename_i h3;simp only[oi,pj] at h;obtain⟨_,rfl,_⟩:=h;obtain⟨u,us',e,hu,hr⟩:=b0h hE hp h1;have:us'=[]:=hr;subst this;have hu:u=_:=hu;rw[hu] at e;exact f0N (hΓ _ _ h3).2.2.2.2.2 e h2 (Nat.zero_le _)
   ·cases h
  ·rename_i f s T h1 h2;split at h
   ·rename_i h3;simp only[oi,pj] at h;obtain⟨_,rfl,_⟩:=h;obtain⟨u,us',e,hu,hr⟩:=b0h hE hp h1;have:us'=[]:=hr;subst this;obtain⟨hv,hm⟩:=j0Z hu;rw[hv] at e;exact p0y (hΓ _ _ h3).2.2.2.2.2 e h2 hm
   ·cases h
  ·cases h
 ·rename_i xs Ts;split at h
  ·rename_i f u g v h1;simp only[oi,pj] at h;obtain⟨_,rfl,_⟩:=h;obtain⟨x1,us1,e1,hu,x2,us2,e2,hv,e3⟩:=b0h hE hp h1;have e3:us2=[]:=e3;subst e3; subst e2;obtain⟨g1,g2⟩:=C7 hu;obtain⟨g3,g4⟩:=C7 hv;rw[g1,g3] at e1;exact(g0g e1 g2 g4).1
  ·cases h
 ·rename_i xs Ts;split at h
  ·rename_i f u g v h1;simp only[oi,pj] at h;obtain⟨_,rfl,_⟩:=h;obtain⟨x1,us1,e1,hu,x2,us2,e2,hv,e3⟩:=b0h hE hp h1;have e3:us2=[]:=e3;subst e3; subst e2;obtain⟨g1,g2⟩:=C7 hu;obtain⟨g3,g4⟩:=C7 hv;rw[g1,g3] at e1;exact(g0g e1 g2 g4).2
  ·cases h
 ·cases h
def i0d(o:List (Nat×Ob)):AV->Option ((t:Ty)×List (den t)×List Nat×Bool)
 | .d fr (.sl t) xs=>some ⟨t,xs,[],fr||D8 t⟩
 | .os id ver=>match lku o id with
   | some (.arr _ fr t xs ver')=>bif Nat.beq ver ver' then some ⟨t,xs,[id],fr||D8 t⟩ else none
   | _=>none
 | _=>none
def t0u(n m y:Nat):Prop:=n+m<=9223372036854775807/\(n+m)*y<=140737488355328
def D0m(n n':Int)(y:Nat):Prop:=0<=n/\n'=n/\n.toNat*y<=281474976710656/\n<=9223372036854775807
def f0f(st:St)(p:Pa)(t:Ty):Nat->List (Nat×Operand)->Option (List (den t)×Bool)
 | _,[]=>some ([],true)
 | k,(i,x) :: r=>bif Nat.beq i k then(match rd st p x with
   | some v=>match e0r v with
     | some cs=>match H6 st.o 24 t cs with
       | some (y,[],f)=>match f0f st p t (k+1) r with
         | some (ys,g)=>some (y :: ys,f&&g)
         | none=>none
       | _=>none
     | none=>none
   | none=>none) else none
def Z2(o:List (Nat×Ob))(d:Nat):Bool:=match lku o d with
 | none=>true
 | some _=>false
def v0o:TI->Option (TypeId×Ty)
 | ⟨1,_,.slice none 0 0,.sl Te,.sl t⟩=>some (Te,t)
 | _=>none
def Z3(Γ:m9)(st:St)(p:Pa)(d:Nat):Op->Option (Prop×AV×(Nat×Ob)×List Nat)
 | .alloc T=>match lku Γ T with
   | some ti=>match Z0 ti.zero.cells.toList with
     | some cs=>bif Z2 st.o d then some (True,.ptr d 0,(d,.box T cs),[d]) else none
     | none=>none
   | none=>none
 | .box T x=>match rd st p x with
   | some v=>match e0r v with
     | some cs=>bif Z2 st.o d then some (True,.ptr d 0,(d,.box T cs),[d]) else none
     | none=>none
   | none=>none
 | .makeSlice T l c=>match rd st p l,rd st p c,lku Γ T with
   | some (.d _ (.int .i64) n),some (.d _ (.int .i64) n'),some ⟨_,_,_,.sl E,_⟩=>match lku Γ E with
     | some te=>match v0o te with
       | some (Te,t)=>bif Z2 st.o d then some (D0m n n' te.bytes,.og d,(d,.grd E Te true t (List.replicate n.toNat []) none),[d]) else none
       | none=>match Z0 te.zero.cells.toList with
         | some cs=>match H6 st.o 24 te.ty cs with
           | some (z,[],f)=>bif Z2 st.o d&&Nat.beq te.size (sz te.ty) then some (D0m n n' te.bytes,.os d 0,(d,.arr E f te.ty (List.replicate n.toNat z) 0),[d]) else none
           | _=>none
         | none=>none
     | none=>none
   | _,_,_=>none
 | .buildSlice T n parts=>match lku Γ T with
   | some ⟨_,_,_,.sl E,_⟩=>match lku Γ E with
     | some te=>match f0f st p te.ty 0 parts.toList with
       | some (xs,f)=>bif Z2 st.o d&&Nat.beq te.size (sz te.ty)&&Nat.beq parts.toList.length n&&Nat.ble (n*te.size) 16777216 then some (True,.os d 0,(d,.arr E f te.ty xs 0),[d]) else none
       | none=>none
     | none=>none
   | _=>none
 | .call ⟨.builtin .append,xs,Ts⟩=>match rds st p xs.toList,Ts.toList with
   | some [.os id ver,v],[T,T2]=>match lku Γ T,lku st.o id,i0d st.o v with
     | some ⟨_,_,_,.sl E,_⟩,some (.arr E' fr t l ver'),some ⟨t',m,ids,f⟩=>match lku Γ E,S8 (.sl t') (.sl t) m with
       | some te,some m'=>bif Nat.beq ver ver'&&Nat.beq E E'&&Nat.beq te.size (sz t)&&Nat.beq T T2 then some (t0u l.length m'.length te.bytes,.os id (ver+1),(id,.arr E (fr&&f) t (l++m') (ver+1)),id :: ids) else none
       | _,_=>none
     | _,_,_=>none
   | some [.v (.slice none 0 0),v],[T,T2]=>match lku Γ T,i0d st.o v with
     | some ⟨_,_,_,.sl E,_⟩,some ⟨t,m,ids,f⟩=>match lku Γ E with
       | some te=>bif Z2 st.o d&&Nat.beq te.size (sz t)&&Nat.beq T T2 then some (t0u 0 m.length te.bytes,.os d 0,(d,.arr E f t m 0),d :: ids) else none
       | none=>none
     | _,_=>none
   | _,_=>none
 | _=>none
def t0d(Γ:m9)(st:St)(p:Pa):Op->Option (Prop×(Nat×Ob)×List Nat)
 | .store T x y=>match rd st p x,rd st p y,lku Γ T with
   | some (.ptr id off),some v,some ti=>match lku st.o id,e0r v with
     | some (.box T' cs),some vs=>bif Nat.beq vs.length ti.size&&Nat.ble (off+vs.length) cs.length then some (True,(id,.box T' (x0F cs off vs)),[id]) else none
     | _,_=>none
   | some (.pel id ver k s off),some v,some ti=>match lku st.o id,e0r v with
     | some (.arr E fr t l ver'),some vs=>match H6 st.o 24 t (x0F (u1 fr t (l.getD k (d6 t))) off vs) with
       | some (y,[],f)=>bif Nat.beq ver ver'&&Nat.beq s (sz t)&&Nat.beq vs.length ti.size&&Nat.ble (off+vs.length) (sz t) then some (k<l.length,(id,.arr E (fr&&f) t (l.set k y) ver'),[id]) else none
       | _=>none
     | _,_=>none
   | _,_,_=>none
 | _=>none
def Mk(X:Cx)(G:Gh)(a:Act)(op:Op)(ty:TypeId)(av:AV)(w:Nat×Ob):Prop :=
 ∃v G',(∀dst pos after g,(execOp a.eval ⟨dst,op,ty,pos,after,g⟩).run X.P G.w=.ok (.value v) G'.w)/\Sat X G'/\GLe G G'/\G'.o=w :: G.o/\AVR G' av v
theorem c0c{o:List (Nat×Ob)}{d:Nat}(h:Z2 o d=true):lku o d=none:=by
 unfold Z2 at h;split at h
 ·assumption
 ·cases h
section
variable {X:Cx} {G:Gh} {a:Act} {st:St} {Γ:m9} {p:Pa}
theorem d0r{d:Nat}{ob:Ob}{r:Value}(h:lku G.o d=none):t0h G d ob r:=⟨(fun _ _ h'=>by rw[h] at h'; cases h'),(fun _ _ _ _ _ h'=>by rw[h] at h'; cases h'),by rw[h]; rfl⟩
theorem x0O(S:Sat X G){d:Nat}{T:TypeId}{cs:List AV}{us:Array Value}(hd:lku G.o d=none)(hA:AVRs G cs us.toList) :
  ∃G',G'.w=G.w.alloc (.cells us T)/\Sat X G'/\GLe G G'/\G'.o=(d,.box T cs) :: G.o/\AVR G' (.ptr d 0) (.pointer (some ⟨G.w.heap.size,0,none⟩)):=by
 have hN:=f0J G.w (.cells us T);have hB:=h0I G.w us T;have h:=S.put (id:=d) (ob:=.box T cs) (r:=.pointer (some ⟨G.w.heap.size,0,none⟩)) (g:=some G.w.heap.size) (w':=G.w.alloc (.cells us T)) (go:=none) (d0r hd) (fun _ e=>by cases e) (WE.of_ext hN.ext) (fun b e=>by cases e; exact .inr (Nat.le_refl _))
  (fun hle=>⟨G.w.heap.size,us.toList,by simp[Gh.put],by simp[Gh.put],hB,hA.mono hle⟩)
 exact⟨_,rfl,h.1,h.2,rfl,⟨T,cs,by rw[show(Gh.put G d (.box T cs) _ _ _).o=(d,.box T cs) :: G.o from rfl,lK]; simp⟩,_,by simp[Gh.put],rfl⟩
theorem x0P(S:Sat X G){d:Nat}{E:TypeId}{fr:Bool}{t:Ty}{xs:List (den t)}{us:Array Value}(hd:lku G.o d=none)(hA:AllR (RT (rg G fr) G.w t) us.toList xs)(hl:xs.length<=9223372036854775807) :
  ∃G',G'.w=G.w.alloc (.cells us E)/\Sat X G'/\GLe G G'/\G'.o=(d,.arr E fr t xs 0) :: G.o/\AVR G' (.os d 0) (.slice (some ⟨G.w.heap.size,0,none⟩) xs.length xs.length):=by
 have hN:=f0J G.w (.cells us E);have hB:=h0I G.w us E;have hlen:=hA.len (fun c x h=>RT.len h);have h:=S.put (id:=d) (ob:=.arr E fr t xs 0) (r:=.slice (some ⟨G.w.heap.size,0,none⟩) xs.length xs.length) (g:=some G.w.heap.size) (w':=G.w.alloc (.cells us E)) (go:=none) (d0r hd) (fun _ e=>by cases e) (WE.of_ext hN.ext) (fun b e=>by cases e; exact .inr (Nat.le_refl _))
  (fun hle=>⟨us.toList,by
    simp only[Gh.put,if_true];exact .inr ⟨G.w.heap.size,0,xs.length,us,rfl,rfl,by simpa [Blk] using hB,Nat.le_refl _,by simp only[maxLen]; omega,by simpa using hlen,by rw[List.drop_zero,<- hlen,List.take_length]⟩,hA.mapR (fun c x hr=>RT.same (w:=G.w) hle.hR hr),fun b e=>by simp only[Gh.put,if_true] at e ⊢; cases e; exact Nat.le_trans S.le S.size⟩)
 exact⟨_,rfl,h.1,h.2,rfl,rfl,E,fr,t,xs,0,by rw[show(Gh.put G d (.arr E fr t xs 0) _ _ _).o=(d,.arr E fr t xs 0) :: G.o from rfl,lK]; simp,Nat.le_refl _,fun _=>by simp[Gh.put]⟩
theorem C0p(S:Sat X G){d n:Nat}{E Te:TypeId}{t:Ty}(hd:lku G.o d=none)(hl:n<=9223372036854775807) :
  ∃G',G'.w=G.w.alloc (.cells (O1 n [.slice none 0 0]).toArray E)/\Sat X G'/\GLe G G'/\G'.o=(d,.grd E Te true t (List.replicate n []) none) :: G.o/\AVR G' (.og d) (.slice (some ⟨G.w.heap.size,0,none⟩) n n):=by
 have hN:=f0J G.w (.cells (O1 n [.slice none 0 0]).toArray E);have hB:=h0I G.w (O1 n [.slice none 0 0]).toArray E;have hr:O1 n [Value.slice none 0 0]=List.replicate n (.slice none 0 0):=by
  clear hN hB hl
  induction n with
  | zero=>rfl
  | succ n ih=>simp only[O1,ih,List.replicate_succ]; rfl
 have h:=S.put (id:=d) (ob:=.grd E Te true t (List.replicate n []) none) (r:=.slice (some ⟨G.w.heap.size,0,none⟩) n n) (g:=some G.w.heap.size) (w':=G.w.alloc (.cells (O1 n [.slice none 0 0]).toArray E)) (go:=none) (d0r hd) (fun _ e=>by cases e) (WE.of_ext hN.ext) (fun b e=>by cases e; exact .inr (Nat.le_refl _))
  (fun hle=>⟨List.replicate n (.slice none 0 0),fun _=>none,by
    simp only[Gh.put,if_true,List.length_replicate];exact .inr ⟨G.w.heap.size,0,n,_,rfl,rfl,by simpa [Blk] using hB,Nat.le_refl _,by simp only[maxLen]; omega,by rw[hr]; simp,by rw[hr]; simp⟩,⟨by simp,fun b=>⟨fun h=>(h.1 rfl).elim,fun⟨_,_,_,h⟩=>by cases h⟩,(fun _ _ _ _ _ _ _ h=>by cases h),fun k hk _=>by
     rw[List.length_replicate] at hk;refine⟨[],?_,?_,(fun _ h=>by cases h)⟩
     ·simp only[gq,List.getElem?_replicate,hk,if_true,Option.getD_some];exact Own.nil
     ·simp only[gq,List.getElem?_replicate,hk,if_true,Option.getD_some];rfl,fun v hv=>by rw[(List.mem_replicate.1 hv).2]; rfl⟩,fun b e=>by simp only[Gh.put,if_true] at e ⊢; cases e; exact Nat.le_trans S.le S.size⟩)
 exact⟨_,rfl,h.1,h.2,rfl,rfl,⟨E,Te,true,t,List.replicate n [],none,by rw[show(Gh.put G d (.grd E Te true t (List.replicate n []) none) _ _ _).o=(d,.grd E Te true t (List.replicate n []) none) :: G.o from rfl,lK]; simp⟩,by simp[Gh.put]⟩
theorem v0n{te:TI}{Te:TypeId}{t:Ty}(h:v0o te=some (Te,t)):te.size=1/\te.zero=.slice none 0 0/\te.ty=.sl t:=by
 unfold v0o at h;split at h
 ·simp only[oi,pj] at h;obtain⟨rfl,rfl⟩:=h;exact⟨rfl,rfl,rfl⟩
 ·cases h
theorem h0Z(hΓ:x6 X.P Γ)(S:Sat X G)(hE:EnvR X.n G st.e a)(hp:PathP p a){d T E ty s0 y0 Te:Nat}{z0:Value}{ty0 t:Ty}{l c:Operand}{n n':Int}{te:TI}{f g:Bool}
  (hl:rd st p l=some (.d f (.int .i64) n)) (hc:rd st p c=some (.d g (.int .i64) n')) (hT:lku Γ T=some ⟨s0,y0,z0,.sl E,ty0⟩) (hte:lku Γ E=some te) (hg:v0o te=some (Te,t))
  (hd:lku G.o d=none) (hq:D0m n n' te.bytes):Mk X G a (.makeSlice T l c) ty (.og d) (d,.grd E Te true t (List.replicate n.toNat []) none):=by
 obtain⟨q1,rfl,q2,q3⟩:=hq;obtain⟨m,rfl⟩:=Int.eq_ofNat_of_zero_le q1;simp only[Int.toNat_natCast] at q2 ⊢;have hok:=hΓ E _ hte
 haveI:Y6 X.P T E:=⟨(hΓ T _ hT).2.2.2.2.2⟩
 haveI:Info X.P E te.size te.bytes te.zero:=⟨hok.1⟩
 obtain⟨_,e0,_⟩:=v0n hg;obtain⟨G',h1,h2,h3,h4,h5⟩:=C0p S (E:=E) (Te:=Te) (t:=t) (d:=d) (n:=m) hd (by omega);have e1:=(C7 (B9 hE hp hl)).1;have e2:=(C7 (B9 hE hp hc)).1;have hle:ev (C3 a [l,c]) l=some (.int .i64 (m:Int)):=by rw[I0 (by simp),e1]
 have hce:ev (C3 a [l,c]) c=some (.int .i64 (m:Int)):=by rw[I0 (by simp),e2]
 refine⟨_,G',fun dst pos after g=>?_,h2,h3,h4,h5⟩;rw[h1];have hz:te.zero.cells.toList=[.slice none 0 0]:=by rw[e0]; rfl
 exact k0G (P:=X.P) (n:=X.n) hle hce hz (by rw[<- hz]; exact hok.2.1) hok.2.2.1 q2 (by omega) a dst pos after g (f0V hE _)
theorem m0Q(hΓ:x6 X.P Γ)(S:Sat X G){d T ty:Nat}{ti:TI}{cs:List AV}(hT:lku Γ T=some ti)(hz:Z0 ti.zero.cells.toList=some cs)(hd:lku G.o d=none):Mk X G a (.alloc T) ty (.ptr d 0) (d,.box T cs):=by
 obtain⟨G',h1,h2,h3,h4,h5⟩:=x0O S (T:=T) hd (b0Q (G:=G) hz);have hI:Info X.P T ti.size ti.bytes ti.zero:=⟨(hΓ T _ hT).1⟩;obtain⟨inf,hinfo,k1,k2,k3⟩:=hI.get;refine⟨_,G',fun dst pos after g=>?_,h2,h3,h4,h5⟩;have hz:=b0T G.w hinfo k3;simp only[execOp,Instr.alloc,Sem.run_bind,hz,Result.andThen,h1];rfl
theorem s0T(S:Sat X G)(hE:EnvR X.n G st.e a)(hp:PathP p a){d T ty:Nat}{x:Operand}{v:AV}{cs:List AV}(hx:rd st p x=some v)(hc:e0r v=some cs)(hd:lku G.o d=none):Mk X G a (.box T x) ty (.ptr d 0) (d,.box T cs):=by
 obtain⟨hA,_⟩:=c0e hc (B9 hE hp hx);obtain⟨G',h1,h2,h3,h4,h5⟩:=x0O S (T:=T) (us:=(a.eval x).cells) hd hA;refine⟨_,G',fun dst pos after g=>?_,h2,h3,h4,h5⟩;simp only[execOp,h1];rfl
theorem l0I{α:Type}{R:List Value->α->Prop}{zs:List Value}{z:α}(h:R zs z):∀k,AllR R (O1 k zs) (List.replicate k z)
 | 0=>rfl
 | k+1=>⟨zs,O1 k zs,rfl,h,l0I h k⟩
theorem h0g(hΓ:x6 X.P Γ)(S:Sat X G)(hE:EnvR X.n G st.e a)(hp:PathP p a){d T E ty s0 y0:Nat}{z0:Value}{ty0:Ty}{l c:Operand}{n n':Int}{te:TI}{cs:List AV}{z:den te.ty}{f g fl:Bool}
  (hl:rd st p l=some (.d f (.int .i64) n)) (hc:rd st p c=some (.d g (.int .i64) n')) (hT:lku Γ T=some ⟨s0,y0,z0,.sl E,ty0⟩) (hte:lku Γ E=some te) (hz:Z0 te.zero.cells.toList=some cs) (hn:H6 G.o 24 te.ty cs=some (z,[],fl))
  (hd:lku G.o d=none) (_hs:te.size=sz te.ty) (hq:D0m n n' te.bytes):Mk X G a (.makeSlice T l c) ty (.os d 0) (d,.arr E fl te.ty (List.replicate n.toNat z) 0):=by
 obtain⟨q1,rfl,q2,q3⟩:=hq;obtain⟨m,rfl⟩:=Int.eq_ofNat_of_zero_le q1;simp only[Int.toNat_natCast] at q2 ⊢;have hok:=hΓ E _ hte
 haveI:Y6 X.P T E:=⟨(hΓ T _ hT).2.2.2.2.2⟩
 haveI:Info X.P E te.size te.bytes te.zero:=⟨hok.1⟩
 have hzR:=e0F S hn (b0Q (G:=G) hz);have hA:=l0I (R:=RT (rg G fl) G.w te.ty) hzR m;obtain⟨G',h1,h2,h3,h4,h5⟩:=x0P S (E:=E) (d:=d) (us:=(O1 m te.zero.cells.toList).toArray) hd (by simpa using hA) (by simp only[List.length_replicate]; omega);rw[List.length_replicate] at h5;have e1:=(C7 (B9 hE hp hl)).1;have e2:=(C7 (B9 hE hp hc)).1;have hle:ev (C3 a [l,c]) l=some (.int .i64 (m:Int)):=by rw[I0 (by simp),e1]
 have hce:ev (C3 a [l,c]) c=some (.int .i64 (m:Int)):=by rw[I0 (by simp),e2]
 refine⟨_,G',fun dst pos after g=>?_,h2,h3,h4,h5⟩;rw[h1];exact k0G (P:=X.P) (n:=X.n) hle hce rfl hok.2.1 hok.2.2.1 q2 (by omega) a dst pos after g (f0V hE _)
theorem r0k(pre post c:List Value)(k:Nat)(h:pre.length=k):spl (pre++post) k c=pre++(c++post.drop c.length):=by
 unfold spl;subst h;rw[List.take_left,List.append_assoc];congr 2;rw[List.drop_append];simp
theorem i0K(S:Sat X G)(ho:G.o=st.o)(hE:EnvR X.n G st.e a)(hp:PathP p a){t:Ty}{place:List (Nat×Nat)}:∀{ps:List (Nat×Operand)} {k:Nat} {ys:List (den t)} {fl:Bool} {pre post:List Value},f0f st p t k ps=some (ys,fl)->pre.length=k*sz t->post.length=ps.length*sz t ->
  (∀i,i<k+ps.length->place[i]?=some (i*sz t,sz t))->∃ws,h0z place (pre++post) (ps.map fun q=>(q.1,a.eval q.2))=some (pre++ws)/\AllR (RT (rg G fl) G.w t) ws ys/\ys.length=ps.length
 | [],k,ys,fl,pre,post,h,h1,h2,hpl=>by
   simp only[f0f,oi,pj] at h; obtain⟨rfl,rfl⟩:=h;have:post=[]:=List.eq_nil_of_length_eq_zero (by simpa using h2);subst this;exact⟨[],by simp[h0z],rfl,rfl⟩
 | (i,x) :: r,k,ys,fl,pre,post,h,h1,h2,hpl=>by
   unfold f0f at h;rw[ce] at h;split at h
   ·rename_i hi;have hi:=nb hi;subst hi;split at h
    ·rename_i v hv;split at h
     ·rename_i cs hcs;split at h
      ·rename_i y f hy;split at h
       ·rename_i ys' g hys;simp only[oi,pj] at h; obtain⟨rfl,rfl⟩:=h;obtain⟨hA,_⟩:=c0e hcs (B9 hE hp hv);rw[<- ho] at hy;have hR:=e0F S hy hA;have hlen:=RT.len hR;rw[List.length_cons,Nat.add_mul] at h2;obtain⟨ws,g1,g2,g3⟩:=i0K S ho hE hp (k:=i+1) (pre:=pre++(a.eval x).cells.toList) (post:=post.drop (sz t)) hys (by rw[List.length_append,h1,hlen,Nat.add_mul]; omega) (by rw[List.length_drop]; omega) (fun j hj=>hpl j (by simp only[List.length_cons]; omega));refine⟨(a.eval x).cells.toList++ws,?_,⟨_,ws,rfl,RT.up hR (fun k hk=>⟨hk.1,fun e=>hk.2 (by rw[ba] at e; exact e.1)⟩),g2.mapR (fun c x h=>RT.up h (fun k hk=>⟨hk.1,fun e=>hk.2 (by rw[ba] at e; exact e.2)⟩))⟩,by simp[g3]⟩;simp only[List.map_cons];unfold h0z;rw[hpl i (by simp only[List.length_cons]; omega)];have hb:(j0K (a.eval x).cells.toList (sz t)&&Nat.ble (i*sz t+sz t) (pre++post).length)=true:=by
         rw[ba];exact⟨j0J hlen,Nat.ble_eq_true_of_le (by rw[List.length_append]; omega)⟩
        simp only[hb,cond_true];rw[r0k _ _ _ _ h1,hlen,<- List.append_assoc,g1];simp
       ·cases h
      ·cases h
     ·cases h
    ·cases h
   ·cases h
theorem g0n(hΓ:x6 X.P Γ)(S:Sat X G)(ho:G.o=st.o)(hE:EnvR X.n G st.e a)(hp:PathP p a){d T E ty s0 y0 n:Nat}{z0:Value}{ty0:Ty}{parts:Array (Nat×Operand)}{te:TI}{xs:List (den te.ty)}{fr:Bool}
  (hT:lku Γ T=some ⟨s0,y0,z0,.sl E,ty0⟩) (hte:lku Γ E=some te) (hps:f0f st p te.ty 0 parts.toList=some (xs,fr)) (hd:lku G.o d=none) (hs:te.size=sz te.ty) (hn:parts.toList.length=n) (hle:n*te.size<=16777216) :
  Mk X G a (.buildSlice T n parts) ty (.os d 0) (d,.arr E fr te.ty xs 0):=by
 have hok:=hΓ E _ hte;have hU:=(hΓ T _ hT).2.2.2.2.2;have hI:Info X.P E te.size te.bytes te.zero:=⟨hok.1⟩;obtain⟨inf,hinfo,k1,k2,k3⟩:=hI.get;have hzl:=e0e hok.2.1;have hz:te.zero.cells.size=te.size:=by simpa using hzl
 have hpos:0<te.size:=by have:=hok.2.2.1; simpa using this
 let place:List (Nat×Nat):=(List.range n).map fun i=>(i*sz te.ty,sz te.ty)
 have hplace:∀i,i<n->place[i]?=some (i*sz te.ty,sz te.ty):=fun i hi=>by simp[place,hi]
 let zs:=((Array.range (n*te.size)).map (te.zero.cells[· % te.zero.cells.size]!)).toList
 have hzs:zs.length=n*sz te.ty:=by simp[zs,hs]
 obtain⟨ws,g1,g2,g3⟩:=i0K S ho hE hp (place:=place) (pre:=[]) (post:=zs) hps (by simp) (by rw[hn]; exact hzs) (fun i hi=>hplace i (by omega));simp only[List.nil_append] at g1;have hf:=j0R place _ zs ws g1;have hf':=h0y (fun i:Nat=>place[i]?) (fun i:Nat=>some (i*te.size,te.size)) _ _ _ (fun i q hi=>by
  rcases Nat.lt_or_ge i n with h' | h'
  ·rw[hplace i h'] at hi; rw[<- hi,hs]
  ·rw[List.getElem?_eq_none (by simp[place]; omega)] at hi; cases hi) hf
 have hlen:=g2.len (fun c x h=>RT.len h);obtain⟨G',h1,h2,h3,h4,h5⟩:=x0P S (E:=E) (d:=d) (us:=ws.toArray) hd (by simpa using g2) (by have:=Nat.le_mul_of_pos_right n hpos; omega);have hxn:xs.length=n:=by omega
 rw[hxn] at h5;refine⟨_,G',fun dst pos after g=>?_,h2,h3,h4,h5⟩;rw[h1];have e1:parts.map (fun(i,x)=>(i,a.eval x))=(parts.toList.map fun q=>(q.1,a.eval q.2)).toArray:=by
  apply Array.ext';simp only[Array.toList_map]
 have hnot:¬n*te.size > 2 ^ 24:=by omega
 have hnew:∀w:World,(newRow E ws.toArray).run X.P w=.ok ⟨w.heap.size,0,none⟩ (w.alloc (.cells ws.toArray E)):=fun _=>rfl;have k1':inf.size=te.size:=k1;simp only[execOp,e1];simp only[Instr.buildSlice,Sem.run_bind,run_underlying hU,Result.andThen,S7 G.w hinfo,k1',hnot,if_false];by_cases h0:n*te.size=0
 ·have hn0:n=0:=by rcases Nat.mul_eq_zero.1 h0 with h' | h'; exact h'; omega
  have e2:Array.map (fun x=>(#[]:Array Value)[x % (#[]:Array Value).size]!) (Array.range (n*te.size))=zs.toArray:=by
   have:zs.length=0:=by rw[hzs,hn0]; simp
   rw[List.eq_nil_of_length_eq_zero this,h0];simp
  simp only[h0] at e2 ⊢;simp only[if_true,Sem.run_bind,Sem.run_pure,Result.andThen,e2,hf',hnew]
 ·have e2:(Array.range (n*te.size)).map (fun x=>te.zero.cells[x % te.zero.cells.size]!)=zs.toArray:=Array.toArray_toList.symm;simp only[h0,if_false,Sem.run_bind,Sem.run_pure,Result.andThen,b0T G.w hinfo k3,e2,hf',hnew]
theorem i0T(S:Sat X G){v:AV}{u:Value}{t:Ty}{ys:List (den t)}{ids:List Nat}{fl:Bool}(h:i0d G.o v=some ⟨t,ys,ids,fl⟩)(hu:AVR G v u) :
  ∃p2 c b2 o2 news,u=.slice p2 ys.length c/\(ys.length=0∨p2=some ⟨b2,o2,none⟩)/\At G.w b2 o2 news/\AllR (RT (rg G fl) G.w t) news ys:=by
 have key:∀{fr:Bool} {t:Ty} {c:List Value} {x:den t},RT (rg G fr) G.w t c x->RT (rg G (fr||D8 t)) G.w t c x:=fun {fr t c x} h=>by
  by_cases hf:D8 t=true
  ·exact RT.free hf h
  ·exact RT.up h (fun k hk=>⟨hk.1,fun e=>hk.2 (by simpa [hf] using e)⟩)
 unfold i0d at h;split at h
 ·simp only[oi] at h; cases h;obtain⟨p,cap,hv,h2,h3,h4⟩:=hu;simp only[List.cons.injEq,and_true] at hv;rcases h4 with rfl | ⟨b,o,ds,hp,hb,hat,hall⟩
  ·exact⟨p,cap,0,0,[],hv,.inl rfl,o0K,rfl⟩
  ·exact⟨p,cap,b,o,ds,hv,.inr hp,hat,hall.mapR (fun c x h=>key h)⟩
 ·rename_i id ver;split at h
  ·rename_i E fr' t' xs ver' ho;rw[ce] at h;split at h
   ·rename_i hv;have hv:=nb hv;simp only[oi] at h; cases h;obtain⟨_,T1,fr1,t1,xs1,ver1,g1,g2,g3⟩:=hu;rw[ho] at g1;cases g1;have hu:=g3 hv;obtain⟨cs,hO,hA,hBB⟩:=S.obs id _ ho;cases hg:G.γ id with
    | none =>
      rw[hg] at hO;rcases hO with ⟨_,hn,_,p,hp⟩ | ⟨b,_,_,_,hb,_⟩
      ·have:ys=[]:=List.eq_nil_of_length_eq_zero hn;subst this;exact⟨p,0,0,0,[],by rw[hu,hp]; rfl,.inl rfl,o0K,rfl⟩
      ·cases hb
    | some b =>
      rw[hg] at hO;obtain⟨o0,c0,e0,hat⟩:=hO.at;rcases hO with ⟨h,_⟩ | ⟨b',o1,cap,cur,hb,hv2,_⟩
      ·cases h
      ·cases hb;rw[hv2] at e0; cases e0;exact⟨_,c0,b,o0,cs,by rw[hu,hv2],.inr rfl,hat,hA.mapR (fun c x h=>key h)⟩
   ·cases h
  ·cases h
 ·cases h
theorem h0e{K:Nat->Prop}{w:World}{t:Ty}:∀{news:List Value} {ys:List (den t)},AllR (RT K w t) news ys->∀u∈news,u.oneCell'=true
 | news,[],h,u,hu=>by rw[show news=[] from h] at hu; cases hu
 | _,y :: r,⟨c,d,e,h1,h2⟩,u,hu=>by
   rw[e] at hu;rcases List.mem_append.1 hu with hu | hu
   ·exact RT.one h1 u hu
   ·exact h0e h2 u hu
theorem h0M{xs:Array Operand}{Ts:Array TypeId}{T ty:TypeId}{u v r:Value}{w':World}(hx:xs.toList.map a.eval=[u,v])(hT:Ts.toList=[T,T])(hr:(Builtin.append_ #[T,T] ty #[u,v]).run X.P G.w=.ok r w') :
  ∀dst pos after g,(execOp a.eval ⟨dst,.call ⟨.builtin .append,xs,Ts⟩,ty,pos,after,g⟩).run X.P G.w=.ok (.value r) w':=by
 intro dst pos after g;have e1:xs.map a.eval=#[u,v]:=by apply Array.ext'; simpa using hx
 have e2:Ts=#[T,T]:=Array.ext' (by simpa using hT);subst e2;simp only[execOp,resolve,e1];simp[invoke,builtin,hr,Result.andThen]
theorem l0H(hΓ:x6 X.P Γ)(S:Sat X G){T E ty s0 y0 id ver:Nat}{z0:Value}{ty0:Ty}{xs:Array Operand}{Ts:Array TypeId}{te:TI}{fr fl:Bool}{t:Ty}{l m:List (den t)}{ids:List Nat}{u w:Value}{v:AV}
  (hT:lku Γ T=some ⟨s0,y0,z0,.sl E,ty0⟩) (hte:lku Γ E=some te) (ho:lku G.o id=some (.arr E fr t l ver)) (hs:te.size=sz t) (hTs:Ts.toList=[T,T])
  (hx:xs.toList.map a.eval=[u,w]) (hu:AVR G (.os id ver) u) (hv:i0d G.o v=some ⟨t,m,ids,fl⟩) (hw:AVR G v w) (hq:t0u l.length m.length te.bytes) :
  Mk X G a (.call ⟨.builtin .append,xs,Ts⟩) ty (.os id (ver+1)) (id,.arr E (fr&&fl) t (l++m) (ver+1)):=by
 have hok:=hΓ E _ hte
 haveI:Y6 X.P T E:=⟨(hΓ T _ hT).2.2.2.2.2⟩
 haveI:Info X.P E te.size te.bytes te.zero:=⟨hok.1⟩
 have hz:te.zero.cells.size=te.size:=by simpa using e0e hok.2.1
 obtain⟨p2,c,b2,o2,news,rfl,hp2,hat,hN⟩:=i0T S hv hw;obtain⟨_,T1,fr1,t1,xs1,ver1,g1,g2,g3⟩:=hu;rw[ho] at g1;cases g1;have hu:=g3 rfl;obtain⟨cs,hO,hA,hBB⟩:=S.obs id _ ho;rw[<- hs] at hO;obtain⟨v',w',g',hr,hO',hw',hg'⟩:=r0t (P:=X.P) (T:=T) (ty:=ty) (c:=c) (by have:=hok.2.2.1; simpa using this) hz hO hp2 (by rw[hN.len (fun c x h=>RT.len h),hs]) hat (h0e hN) hq.1 hq.2;have h:=S.put (id:=id) (ob:=.arr E (fr&&fl) t (l++m) (ver+1)) (r:=v') (g:=g') (w':=w') (go:=G.γ id) ⟨(fun T cs h=>by rw[ho] at h; cases h),(fun T fr' t' xs' v'' h=>by rw[ho] at h; cases h; exact⟨_,_,_,_,_,rfl,Nat.le_succ _,fun e=>by omega⟩),by rw[ho]; rfl⟩
  (fun b hb=>⟨⟨_,ho⟩,hb⟩) hw' (fun b hb=>by rcases hg' with h | h; exact .inl (h ▸ hb); rw[h] at hb; cases hb; exact .inr (Nat.le_refl _))
  (fun hle=>⟨cs++news,by simp only[Gh.put,if_true,List.length_append]; rw[<- hs]; exact hO',((hN.mapR (fun c x h=>RT.up h (fun k hk=>⟨hk.1,fun e=>hk.2 (by rw[ba] at e; exact e.2)⟩))).app (hA.mapR (fun c x h=>RT.up h (fun k hk=>⟨hk.1,fun e=>hk.2 (by rw[ba] at e; exact e.1)⟩)))).mapR (fun c x hr=>RT.same (w:=G.w) hle.hR hr),fun b e=>by
    simp only[Gh.put,if_true] at e ⊢;rcases hg' with h | h
    ·exact hBB b (h ▸ e)
    ·rw[h] at e; cases e; exact Nat.le_trans S.le S.size⟩)
 rw[hu] at hx;refine⟨v',_,h0M hx hTs hr,h.1,h.2,rfl,?_,E,fr&&fl,t,l++m,ver+1,by rw[show(Gh.put G id (.arr E (fr&&fl) t (l++m) (ver+1)) _ _ _).o=(id,.arr E (fr&&fl) t (l++m) (ver+1)) :: G.o from rfl,lK]; simp,Nat.le_refl _,fun _=>by simp[Gh.put]⟩;obtain⟨p,c,e⟩:=hO'.len;rw[e]; rfl
theorem g0p(hΓ:x6 X.P Γ)(S:Sat X G){T E ty s0 y0 d:Nat}{z0:Value}{ty0:Ty}{xs:Array Operand}{Ts:Array TypeId}{te:TI}{fl:Bool}{t:Ty}{m:List (den t)}{ids:List Nat}{w:Value}{v:AV}
  (hT:lku Γ T=some ⟨s0,y0,z0,.sl E,ty0⟩) (hte:lku Γ E=some te) (hd:lku G.o d=none) (hs:te.size=sz t) (hTs:Ts.toList=[T,T])
  (hx:xs.toList.map a.eval=[.slice none 0 0,w]) (hv:i0d G.o v=some ⟨t,m,ids,fl⟩) (hw:AVR G v w) (hq:t0u 0 m.length te.bytes) :
  Mk X G a (.call ⟨.builtin .append,xs,Ts⟩) ty (.os d 0) (d,.arr E fl t m 0):=by
 have hok:=hΓ E _ hte
 haveI:Y6 X.P T E:=⟨(hΓ T _ hT).2.2.2.2.2⟩
 haveI:Info X.P E te.size te.bytes te.zero:=⟨hok.1⟩
 have hz:te.zero.cells.size=te.size:=by simpa using e0e hok.2.1
 obtain⟨p2,c,b2,o2,news,rfl,hp2,hat,hN⟩:=i0T S hv hw;obtain⟨v',w',g',hr,hO',hw',hg'⟩:=r0t (P:=X.P) (T:=T) (ty:=ty) (c:=c) (by have:=hok.2.2.1; simpa using this) hz (Own.nil (w:=G.w) (E:=E) (s:=te.size) (p:=none)) hp2 (by rw[hN.len (fun c x h=>RT.len h),hs]) hat (h0e hN) hq.1 hq.2;simp only[Nat.zero_add,List.nil_append] at hO';have h:=S.put (id:=d) (ob:=.arr E fl t m 0) (r:=v') (g:=g') (w':=w') (go:=none) (d0r hd) (fun _ e=>by cases e) hw' (fun b hb=>by rcases hg' with h | h; (rw[h] at hb; cases hb); rw[h] at hb; cases hb; exact .inr (Nat.le_refl _))
  (fun hle=>⟨news,by simp only[Gh.put,if_true]; rw[<- hs]; exact hO',hN.mapR (fun c x hr=>RT.same (w:=G.w) hle.hR hr),fun b e=>by
    simp only[Gh.put,if_true] at e ⊢;rcases hg' with h | h
    ·rw[h] at e; cases e
    ·rw[h] at e; cases e; exact Nat.le_trans S.le S.size⟩)
 refine⟨v',_,h0M hx hTs hr,h.1,h.2,rfl,?_,E,fl,t,m,0,by rw[show(Gh.put G d (.arr E fl t m 0) _ _ _).o=(d,.arr E fl t m 0) :: G.o from rfl,lK]; simp,Nat.le_refl _,fun _=>by simp[Gh.put]⟩;obtain⟨p,c,e⟩:=hO'.len;rw[e]; rfl
def Us(X:Cx)(G:Gh)(a:Act)(op:Op)(ty:TypeId)(w:Nat×Ob):Prop :=
 ∃G',(∀dst pos after g,(execOp a.eval ⟨dst,op,ty,pos,after,g⟩).run X.P G.w=.ok .skip G'.w)/\Sat X G'/\GLe G G'/\G'.o=w :: G.o
theorem d0X{T ty:TypeId}{x y:Operand}{b o:Nat}{w':World}(hx:a.eval x=.pointer (some ⟨b,o,none⟩))(h:(storeVar T ⟨b,o,none⟩ (a.eval y)).run X.P G.w=.ok () w') :
  ∀dst pos after g,(execOp a.eval ⟨dst,.store T x y,ty,pos,after,g⟩).run X.P G.w=.ok .skip w':=by
 intro dst pos after g;simp only[execOp,hx];simp[Instr.storeAt,Instr.sureAddr,h,Result.andThen]
theorem k0y(hΓ:x6 X.P Γ)(S:Sat X G){T T' ty id off:Nat}{x y:Operand}{ti:TI}{cs vs:List AV}{v:AV}(hT:lku Γ T=some ti)(ho:lku G.o id=some (.box T' cs))(hx:AVR G (.ptr id off) (a.eval x))(hv:AVR G v (a.eval y))(hc:e0r v=some vs)
  (hl:vs.length=ti.size) (hle:off+vs.length<=cs.length):Us X G a (.store T x y) ty (id,.box T' (x0F cs off vs)):=by
 haveI:Info X.P T ti.size ti.bytes ti.zero:=⟨(hΓ T _ hT).1⟩
 obtain⟨_,b,hb,hxe⟩:=hx;obtain⟨b',us,g1,g2,g3,g4⟩:=S.obs id _ ho;rw[hb] at g2;cases g2;obtain⟨hA,h1⟩:=c0e hc hv;have hlen:=hA.len;have hlen2:=g4.len;have hst:=c0C (P:=X.P) (T:=T) (o:=off) (v:=a.eval y) rfl (by omega) h1 g3 (by omega);have hW:=e0S G.w b (spl us off (a.eval y).cells.toList).toArray;have hB:=setRow_heap G.w b us.toArray (spl us off (a.eval y).cells.toList).toArray T' (0,0) g3;have h:=S.put (id:=id) (ob:=.box T' (x0F cs off vs)) (r:=G.ρ id) (g:=some b) (w':=G.w.setRow b (spl us off (a.eval y).cells.toList).toArray) (go:=some b) ⟨(fun T cs h=>⟨rfl,_,_,rfl⟩),(fun T fr' t' xs' v'' h=>by rw[ho] at h; cases h),by rw[ho]; rfl⟩
  (fun b' hb'=>by cases hb'; exact⟨⟨_,ho⟩,g1⟩) (WE.of_wr hW) (fun b' hb'=>.inl hb') (fun hle'=>⟨b,_,by simp[Gh.put],by simp only[Gh.put,if_true]; exact hb,hB,f0E (g4.mono hle') (hA.mono hle') hle⟩)
 exact⟨_,d0X hxe hst,h.1,h.2,rfl⟩
theorem t0Q{cur vs:List Value}{o k:Nat}(h:o+vs.length<=k)(hk:k<=cur.length):(spl cur o vs).take k=spl (cur.take k) o vs:=by
 unfold spl;have e1:(List.take o cur).length=o:=by rw[List.length_take]; omega
 rw[List.append_assoc,List.take_append,List.take_append,e1,List.append_assoc];congr 1
 ·rw[List.take_of_length_le (by rw[e1]; omega),List.take_take]; congr 1; omega
 ·congr 1
  ·rw[List.take_of_length_le (by omega)]
  ·rw[List.drop_take]; congr 1; omega
theorem v0w{cur vs:List Value}{o k:Nat}(h:o<=cur.length):(spl cur (o+k) vs).drop o=spl (cur.drop o) k vs:=by
 unfold spl;rw[List.append_assoc,List.append_assoc,List.drop_append,List.drop_take,List.length_take,List.drop_drop];rw[show o+k-o=k by omega,show o-min (o+k) cur.length=0 by omega,List.drop_zero,Nat.add_assoc]
theorem t0V{cs vs:List Value}{o:Nat}(h:o+vs.length<=cs.length):(spl cs o vs).length=cs.length:=by
 simp only[spl,List.length_append,List.length_take,List.length_drop]; omega
theorem k0x(hΓ:x6 X.P Γ)(S:Sat X G){T E ty id ver k off:Nat}{x y:Operand}{ti:TI}{fr fl:Bool}{t:Ty}{l:List (den t)}{vs:List AV}{v:AV}{z:den t}(hT:lku Γ T=some ti)(ho:lku G.o id=some (.arr E fr t l ver))(hx:AVR G (.pel id ver k (sz t) off) (a.eval x))
  (hv:AVR G v (a.eval y)) (hc:e0r v=some vs) (hl:vs.length=ti.size) (hle:off+vs.length<=sz t) (hk:k<l.length) (hd:H6 G.o 24 t (x0F (u1 fr t (l.getD k (d6 t))) off vs)=some (z,[],fl)):Us X G a (.store T x y) ty (id,.arr E (fr&&fl) t (l.set k z) ver):=by
 haveI:Info X.P T ti.size ti.bytes ti.zero:=⟨(hΓ T _ hT).1⟩
 obtain⟨_,T1,fr1,t1,xs1,ver1,g1,g2,g3⟩:=hx;rw[ho] at g1;cases g1;obtain⟨b,o,n0,c0,hr,hxe⟩:=g3 rfl;obtain⟨cs,hO,hA,hBB⟩:=S.obs id _ ho;obtain⟨hV,h1⟩:=c0e hc hv;have hlen:=hV.len;rcases hO with ⟨_,hn,_⟩ | ⟨b',o',cap,cur,hb,hv2,k1,k2,k3,k4,k5⟩
 ·omega
 have hbb:b'=b/\o'=o:=by rw[hr] at hv2; simp only[Value.slice.injEq,oi,Addr.mk.injEq] at hv2; exact⟨hv2.1.1.symm,hv2.1.2.1.symm⟩
 obtain⟨hbb,hoo⟩:=hbb;subst hbb; subst hoo;obtain⟨pre,c,post,e,hp,hR⟩:=hA.get (fun c x h=>RT.len h) hk;have hcl:=RT.len hR;have hsz:(k+1)*sz t<=l.length*sz t:=Nat.mul_le_mul_right _ hk;rw[Nat.add_mul] at hsz;have hcap:l.length*sz t<=cap*sz t:=Nat.mul_le_mul_right _ k2;have hB:Blk G.w b' cur.toList E:=by unfold Blk; rw[Array.toArray_toList]; exact k1
 have hcur:cur.toList.length=o'+cap*sz t:=by rw[Array.length_toList,k4]
 have hst:=c0C (P:=X.P) (T:=T) (o:=o'+(k*sz t+off)) (v:=a.eval y) rfl (by omega) h1 hB (by omega);have hW:=e0S G.w b' (spl cur.toList (o'+(k*sz t+off)) (a.eval y).cells.toList).toArray;have hB':=setRow_heap G.w b' cur (spl cur.toList (o'+(k*sz t+off)) (a.eval y).cells.toList).toArray E (0,0) k1;have hD:=a0Z hR;have hgd:l.getD k (d6 t)=l[k]:=by simp[hk]
 rw[hgd] at hd;have hDlen:=hD.len;have hNew:=e0F S hd (f0E hD hV (by omega));have hset:=AllR.set (R:=RT (rg G (fr&&fl)) G.w t) (s:=sz t) (fun c x h=>RT.len h) (RT.up hNew (fun k hk=>⟨hk.1,fun e=>hk.2 (by rw[ba] at e; exact e.2)⟩)) (hA.mapR (fun c x h=>RT.up h (fun k hk=>⟨hk.1,fun e=>hk.2 (by rw[ba] at e; exact e.1)⟩))) hk;have hcells:cs.take (k*sz t)++spl c off (a.eval y).cells.toList++cs.drop ((k+1)*sz t)=((spl cur.toList (o'+(k*sz t+off)) (a.eval y).cells.toList).drop o').take (l.length*sz t):=by
  rw[v0w (by omega),t0Q (by omega) (by rw[List.length_drop]; omega),k5,e];have e1:(pre++c++post).take (k*sz t)=pre:=by rw[List.append_assoc,<- hp,List.take_left]
  have e2:(pre++c++post).drop ((k+1)*sz t)=post:=by
   have:(k+1)*sz t=(pre++c).length:=by rw[List.length_append,hp,hcl,Nat.add_mul]; omega
   rw[this,List.drop_left]
  rw[e1,e2];unfold spl;rw[<- hp];have f1:List.take (pre.length+off) (pre++c++post)=pre++c.take off:=by
   rw[List.append_assoc,List.take_length_add_append,List.take_append_of_le_length (by omega)]
  have f2:List.drop (pre.length+off+(a.eval y).cells.toList.length) (pre++c++post)=c.drop (off+(a.eval y).cells.toList.length)++post:=by
   rw[List.append_assoc,Nat.add_assoc,List.drop_length_add_append,List.drop_append_of_le_length (by omega)]
  rw[f1,f2];simp
 rw[hcells] at hset;have h:=S.put (id:=id) (ob:=.arr E (fr&&fl) t (l.set k z) ver) (r:=G.ρ id) (g:=some b') (w':=G.w.setRow b' (spl cur.toList (o'+(k*sz t+off)) (a.eval y).cells.toList).toArray) (go:=some b') ⟨(fun T cs h=>by rw[ho] at h; cases h),(fun T fr' t' xs' v'' h=>by rw[ho] at h; cases h; exact⟨_,_,_,_,_,rfl,Nat.le_refl _,fun _=>rfl⟩),by rw[ho]; rfl⟩
  (fun b2 hb2=>by cases hb2; exact⟨⟨_,ho⟩,hb⟩) (WE.of_wr hW) (fun b2 hb2=>.inl hb2)
  (fun hle'=>⟨_,by
    simp only[Gh.put,if_true,List.length_set];exact .inr ⟨b',o',cap,_,rfl,hv2,hB',k2,k3,by rw[List.size_toArray,t0V (by omega),hcur],by rw[List.toList_toArray]⟩,hset.mapR (fun c x hr=>RT.same (w:=G.w) hle'.hR hr),fun b e=>by simp only[Gh.put,if_true] at e ⊢; cases e; exact hBB _ hb⟩)
 exact⟨_,d0X hxe hst,h.1,h.2,rfl⟩
theorem p0O(hΓ:x6 X.P Γ)(S:Sat X G)(ho:G.o=st.o)(hE:EnvR X.n G st.e a)(hp:PathP p a){op:Op}{ty:TypeId}{d:Nat}{q:Prop}{r:AV}{w:Nat×Ob}{l:List Nat}
  (h:Z3 Γ st p d op=some (q,r,w,l)) (hq:q):Mk X G a op ty r w:=by
 unfold Z3 at h;split at h
 ·split at h
  ·rename_i ti hT;split at h
   ·rename_i cs hz;rw[ce] at h;split at h
    ·rename_i hf;simp only[oi,pj] at h;obtain⟨_,rfl,rfl,_⟩:=h;exact m0Q hΓ S hT hz (by rw[ho]; exact c0c hf)
    ·cases h
   ·cases h
  ·cases h
 ·split at h
  ·rename_i v hv;split at h
   ·rename_i cs hc;rw[ce] at h;split at h
    ·rename_i hf;simp only[oi,pj] at h;obtain⟨_,rfl,rfl,_⟩:=h;exact s0T S hE hp hv hc (by rw[ho]; exact c0c hf)
    ·cases h
   ·cases h
  ·cases h
 ·split at h
  ·rename_i f n g n' _ _ _ E _ h1 h2 h3;split at h
   ·rename_i te h4;split at h
    ·rename_i Te t hgt;rw[ce] at h;split at h
     ·rename_i hf;simp only[oi,pj] at h;obtain⟨rfl,rfl,rfl,_⟩:=h;exact h0Z hΓ S hE hp h1 h2 h3 h4 hgt (by rw[ho]; exact c0c hf) hq
     ·cases h
    ·split at h
     ·rename_i cs h5;split at h
      ·rename_i z fl h6;rw[ce] at h;split at h
       ·rename_i hf;rw[ba] at hf;simp only[oi,pj] at h;obtain⟨rfl,rfl,rfl,_⟩:=h;exact h0g hΓ S hE hp h1 h2 h3 h4 h5 (by rw[ho]; exact h6) (by rw[ho]; exact c0c hf.1) (nb hf.2) hq
       ·cases h
      ·cases h
     ·cases h
   ·cases h
  ·cases h
 ·split at h
  ·rename_i h1;split at h
   ·rename_i te h2;split at h
    ·rename_i xs fl h3;rw[ce] at h;split at h
     ·rename_i hf;simp only[ba] at hf;simp only[oi,pj] at h;obtain⟨_,rfl,rfl,_⟩:=h;exact g0n hΓ S ho hE hp h1 h2 h3 (by rw[ho]; exact c0c hf.1.1.1) (nb hf.1.1.2) (nb hf.1.2) (Nat.le_of_ble_eq_true hf.2)
     ·cases h
    ·cases h
   ·cases h
  ·cases h
 ·split at h
  ·rename_i id ver v T T2 h1 h2;split at h
   ·rename_i _ _ _ E _ E' fr t l' ver' t' m ids fl h3 h4 h5;split at h
    ·rename_i te m' h6 h7;rw[ce] at h;split at h
     ·rename_i hf;simp only[ba] at hf;simp only[oi,pj] at h;obtain⟨rfl,rfl,rfl,_⟩:=h;obtain⟨e,rfl⟩:=c0k h7;cases e;have e1:=nb hf.1.1.1;have e2:=nb hf.1.1.2;have e3:=nb hf.1.2;have e4:=nb hf.2;subst e1; subst e2; subst e4;obtain⟨u,us',e,hu,w,us2,e',hw,hr⟩:=b0h hE hp h1;have hr:us2=[]:=hr;subst hr; subst e';exact l0H hΓ S h3 h6 (by rw[ho]; exact h4) e3 h2 e hu (by rw[ho]; exact h5) hw hq
     ·cases h
    ·cases h
   ·cases h
  ·rename_i v T T2 h1 h2;split at h
   ·rename_i _ _ _ E _ t m ids fl h3 h5;split at h
    ·rename_i te h6;rw[ce] at h;split at h
     ·rename_i hf;simp only[ba] at hf;simp only[oi,pj] at h;obtain⟨rfl,rfl,rfl,_⟩:=h;have e4:=nb hf.2;subst e4;obtain⟨u,us',e,hu,w,us2,e',hw,hr⟩:=b0h hE hp h1;have hr:us2=[]:=hr;have hu:u=_:=hu;subst hr; subst e'; subst hu;exact g0p hΓ S h3 h6 (by rw[ho]; exact c0c hf.1.1) (nb hf.1.2) h2 e (by rw[ho]; exact h5) hw hq
     ·cases h
    ·cases h
   ·cases h
  ·cases h
 ·cases h
theorem p0K(hΓ:x6 X.P Γ)(S:Sat X G)(ho:G.o=st.o)(hE:EnvR X.n G st.e a)(hp:PathP p a){op:Op}{ty:TypeId}{q:Prop}{w:Nat×Ob}{l:List Nat}
  (h:t0d Γ st p op=some (q,w,l)) (hq:q):Us X G a op ty w:=by
 unfold t0d at h;split at h
 ·split at h
  ·rename_i id off v ti h1 h2 h3;split at h
   ·rename_i T' cs vs h4 h5;rw[ce] at h;split at h
    ·rename_i hf;rw[ba] at hf;simp only[oi,pj] at h;obtain⟨_,rfl,_⟩:=h;exact k0y hΓ S h3 (by rw[ho]; exact h4) (B9 hE hp h1) (B9 hE hp h2) h5 (nb hf.1) (Nat.le_of_ble_eq_true hf.2)
    ·cases h
   ·cases h
  ·rename_i id ver k s off v ti h1 h2 h3;split at h
   ·rename_i E fr t l' ver' vs h4 h5;split at h
    ·rename_i z fl h6;rw[ce] at h;split at h
     ·rename_i hf;simp only[ba] at hf;simp only[oi,pj] at h;obtain⟨rfl,rfl,_⟩:=h;have e1:=nb hf.1.1.1;have e2:=nb hf.1.1.2;subst e1; subst e2;exact k0x hΓ S h3 (by rw[ho]; exact h4) (B9 hE hp h1) (B9 hE hp h2) h5 (nb hf.1.2) (Nat.le_of_ble_eq_true hf.2) hq (by rw[ho]; exact h6)
     ·cases h
    ·cases h
   ·cases h
  ·cases h
 ·cases h
end
inductive Par
 | dat (t:Ty)
 | agg (t:Ty)
 | io (T:TypeId) (t:Ty)
 | fn (f:FuncId) (c:Ty)
 | nof (f:FuncId)
 | os (E:TypeId) (t:Ty)
@[reducible] def G0D:Par->Type
  | .dat t=>den t
  | .agg t=>den t
  | .io _ t=>den t
  | .fn _ c=>den c
  | .nof _=>Unit
  | .os _ t=>List (den t)
@[reducible] def w9:List Par->Type
  | []=>Unit
  | p :: r=>G0D p×w9 r
@[reducible] def IOT:List Par->Type
  | []=>Unit
  | .io _ t :: _=>den t
  | _ :: r=>IOT r
structure Res(ps:List Par) where
 q:Prop
 r:AV
 z:IOT ps
structure Ct where
 f:FuncId
 ps:List Par
 res:w9 ps->Res ps
def ArgsR(K:Nat->Prop)(w:World):Option Nat->(ps:List Par)->w9 ps->List Value->Prop
 | go,[],_,vs=>vs=[]/\go=none
 | go,.dat t :: r,x,vs=>∃v us,vs=v :: us/\RT K w t [v] x.1/\ArgsR K w go r x.2 us
 | go,.agg t :: r,x,vs=>∃cs us,vs=.agg cs.toArray :: us/\RT K w t cs x.1/\ArgsR K w go r x.2 us
 | go,.fn f c :: r,x,vs=>∃cs us,vs=.func (.func f) #[] cs.toArray :: us/\RT K w c cs x.1/\ArgsR K w go r x.2 us
 | go,.nof f :: r,x,vs=>∃us,vs=.func (.func f) #[] #[] :: us/\ArgsR K w go r x.2 us
 | go,.io T t :: r,x,vs=>∃b cs us,vs=.pointer (some ⟨b,0,none⟩) :: us/\go=some b/\¬K b/\Blk w b cs T/\RT K w t cs x.1/\ArgsR K w none r x.2 us
 | go,.os E t :: r,x,vs=>∃v cs us,vs=v :: us/\(∀b,go=some b->¬K b)/\v.oneCell'=true/\Own w E (sz t) go v x.1.length cs/\AllR (RT K w t) cs x.1/\ArgsR K w none r x.2 us
def giv:List Par->Bool
 | []=>false
 | .os _ _ :: _=>true
 | .dat _ :: r=>giv r
 | .agg _ :: r=>giv r
 | .fn _ _ :: r=>giv r
 | .nof _ :: r=>giv r
 | .io _ _ :: r=>giv r
def IOR(K:Nat->Prop)(w:World)(go:Option Nat):(ps:List Par)->IOT ps->Prop
 | [],_=>True
 | .io T t :: _,z=>∃b cs,go=some b/\Blk w b cs T/\RT K w t cs z
 | .dat _ :: r,z=>IOR K w go r z
 | .agg _ :: r,z=>IOR K w go r z
 | .fn _ _ :: r,z=>IOR K w go r z
 | .nof _ :: r,z=>IOR K w go r z
 | .os _ _ :: r,z=>IOR K w go r z
/- The result: data lead V0 K; each row that is handed over lies in a block of its own of the list, or has no block. -/
mutual
def ResR(K:Bool->Nat->Prop)(w:World):AV->Value->List (Option Nat)->Prop
 | .v x,u,gs=>u=x/\gs=[]
 | .d fr t x,u,gs=>RT (K fr) w t [u] x/\gs=[]
 | .agg xs,u,gs=>∃us:List Value,u=.agg us.toArray/\ResRs K w xs us gs
 | .tup xs,u,gs=>∃us:List Value,u=.tuple us.toArray/\ResRs K w xs us gs
 | .ob T xs,u,gs=>∃b us gs',gs=some b :: gs'/\u=.pointer (some ⟨b,0,none⟩)/\Blk w b us T/\ResRs K w xs us gs'
 | .ow T fr t xs,u,gs=>∃g cs,gs=[g]/\u.oneCell'=true/\Own w T (sz t) g u xs.length cs/\AllR (RT (K fr) w t) cs xs
 | _,_,_=>False
def ResRs(K:Bool->Nat->Prop)(w:World):List AV->List Value->List (Option Nat)->Prop
 | [],us,gs=>us=[]/\gs=[]
 | a :: r,us,gs=>∃u us' g1 g2,us=u :: us'/\gs=g1++g2/\ResR K w a u g1/\ResRs K w r us' g2
end
def i0g:List (Option Nat)->Prop
 | []=>True
 | g :: r=>(∀b,g=some b->some b ∉ r)/\i0g r
def D0e(fr:Bool)(K:Nat->Prop)(w w':World)(gs:List (Option Nat))(k:Nat):Prop:=((fr=false/\K k)∨w.heap.size<=k)/\UFg w' w.heap.size k/\some k ∉ gs
def Ok(P:Program)(c:Ct):Prop:=d0Q P c.f=true/\∀(x:w9 c.ps),(c.res x).q->∀(w:World) (vs:List Value) (go:Option Nat) (K:Nat->Prop),(∀k,K k->k<w.heap.size)->ArgsR K w go c.ps x vs ->
 Calls P c.f vs.toArray w fun en w'=>∃v gs,en=.returned v/\WE go w w'/\i0g gs/\(∀b,some b∈gs->w.heap.size<=b∨(giv c.ps=true/\go=some b))/\ResR (fun fr=>D0e fr K w w' gs) w' (c.res x).r v gs /\
  IOR (fun k=>(K k∨w.heap.size<=k)/\UFg w' w.heap.size k/\some k ∉ gs/\go≠some k) w' go c.ps (c.res x).z
def t0r(o:List (Nat×Ob)):(p:Par)->AV->Option (G0D p×List Nat×Option Nat)
 | .dat t,a=>match H6 o 24 t [a] with
   | some (x,l,_)=>some (x,l,none)
   | none=>none
 | .agg t,.agg cs=>match H6 o 24 t cs with
   | some (x,l,_)=>some (x,l,none)
   | none=>none
 | .fn f c,.fn f' cs=>bif Nat.beq f f' then(match H6 o 24 c cs with
   | some (x,l,_)=>some (x,l,none)
   | none=>none) else none
 | .nof f,.fn f' []=>bif Nat.beq f f' then some ((),[],none) else none
 | .io T t,.ptr id 0=>match lku o id with
   | some (.box T' cs)=>bif Nat.beq T T' then(match H6 o 24 t cs with
     | some (x,[],_)=>some (x,[],some id)
     | _=>none) else none
   | _=>none
 | .os E t,.os id ver=>match lku o id with
   | some (.arr E' _ t' xs ver')=>bif Nat.beq E E'&&Nat.beq ver ver' then(match S8 (.sl t') (.sl t) xs with
     | some x=>some (x,[],some id)
     | none=>none) else none
   | _=>none
 | _,_=>none
def O2(o:List (Nat×Ob)):(ps:List Par)->List AV->Option (w9 ps×List Nat×Option Nat)
 | [],[]=>some ((),[],none)
 | p :: r,a :: as'=>match t0r o p a with
   | some (x,l,i)=>match O2 o r as' with
     | some (y,m,j)=>match i,j with
       | none,j=>some ((x,y),l++m,j)
       | some i,none=>some ((x,y),l++m,some i)
       | _,_=>none
     | none=>none
   | none=>none
 | _,_=>none
theorem c0F{o:List (Nat×Ob)}:∀(n:Nat) {t:Ty} {cs:List AV} {x:den t} {l:List Nat} {fl:Bool},H6 o n t cs=some (x,l,fl)->∀id∈l,∃ob,lku o id=some ob:=by
 intro n
 induction n with
 | zero=>intro t cs x l fl h; unfold H6 at h; cases h
 | succ n ih =>
   intro t cs x l fl h;have one:∀(t:Ty) (c:AV) (x:den t),Y9 o (H6 o n) t c=some (x,l,fl)->∀id∈l,∃ob,lku o id=some ob:=by
    intro t c x h;unfold Y9 at h;split at h
    ·split at h
     ·simp only[oi,pj] at h;obtain⟨_,rfl,_⟩:=h;intro id hid; cases hid
     ·cases h
    ·simp only[oi,pj] at h;obtain⟨_,rfl,_⟩:=h;intro id hid; cases hid
    ·rename_i e id0 ver;split at h
     ·rename_i ho;rw[ce] at h;split at h
      ·split at h
       ·simp only[oi,pj] at h;obtain⟨_,rfl,_⟩:=h;intro id hid;cases List.mem_singleton.1 hid;exact⟨_,ho⟩
       ·cases h
      ·cases h
     ·cases h
    ·split at h
     ·rename_i ho;split at h
      ·rename_i x1 l1 f1 h1;simp only[oi,pj] at h;obtain⟨_,rfl,_⟩:=h;intro id hid;rcases List.mem_cons.1 hid with rfl | hid
       ·exact⟨_,ho⟩
       ·exact ih h1 id hid
      ·cases h
     ·cases h
    ·cases h
   have key:∀(t:Ty) (x:den t) (r:Option (den t×List Nat×Bool)),r=some (x,l,fl)->r=(match(generalizing:=false) cs with | [c]=>Y9 o (H6 o n) t c | _=>none)->∀id∈l,∃ob,lku o id=some ob:=by
    intro t x r hr0 hr1;rw[hr0] at hr1;have h:=hr1.symm;split at h
    ·exact one _ _ _ h
    ·cases h
   cases t with
   | pr a b =>
     unfold H6 at h;split at h
     ·rename_i x1 l1 f1 h1;split at h
      ·rename_i y1 m1 g1 h2;simp only[oi,pj] at h;obtain⟨_,rfl,_⟩:=h;intro id hid;rcases List.mem_append.1 hid with hid | hid
       ·exact ih h1 id hid
       ·exact ih h2 id hid
      ·cases h
     ·cases h
   | _=>exact key _ _ _ h rfl
def Bor(G:Gh)(ids:List Nat)(k:Nat):Prop:=G.K k∨∃id∈ids,G.γ id=some k
theorem e0L{X:Cx}{G:Gh}(S:Sat X G){all:List Nat}(hall:∀id∈all,∃ob,lku G.o id=some ob):∀{ps:List Par} {as':List AV} {us:List Value} {x:w9 ps} {l:List Nat} {io:Option Nat},O2 G.o ps as'=some (x,l,io)->(∀id∈l,id∈all)->(∀i,io=some i->i ∉ all)->AVRs G as' us ->
  (∀id∈l,∃ob,lku G.o id=some ob)/\∃go,ArgsR (Bor G all) G.w go ps x us/\((io=none/\go=none)∨(∃id b T cs,io=some id/\go=some b/\lku G.o id=some (.box T cs)/\G.γ id=some b)∨∃id E fr t xs ver,io=some id/\go=G.γ id/\lku G.o id=some (.arr E fr t xs ver)/\giv ps=true)
 | [],[],us,x,l,io,h,hl,hio,hA=>by
   simp only[O2,oi,pj] at h;obtain⟨_,rfl,rfl⟩:=h;exact⟨(fun id h=>by cases h),none,⟨hA,rfl⟩,.inl ⟨rfl,rfl⟩⟩
 | [],_ :: _,us,x,l,io,h,hl,hio,hA=>by simp[O2] at h
 | _ :: _,[],us,x,l,io,h,hl,hio,hA=>by simp[O2] at h
 | p :: r,a :: as',us,x,l,io,h,hl,hio,hA=>by
   obtain⟨u,us',rfl,hu,hA'⟩:=hA;have hK:∀k,G.K k->Bor G all k:=fun k hk=>.inl hk;simp only[O2] at h;split at h
   ·rename_i x1 l1 i1 h1;split at h
    ·rename_i y m j h2;have hx:x=(x1,y)/\l=l1++m/\((i1=none/\io=j)∨(∃i,i1=some i/\j=none/\io=some i)):=by
      split at h
      ·simp only[oi,pj] at h;obtain⟨rfl,rfl,rfl⟩:=h;exact⟨rfl,rfl,.inl ⟨rfl,rfl⟩⟩
      ·simp only[oi,pj] at h;obtain⟨rfl,rfl,rfl⟩:=h;exact⟨rfl,rfl,.inr ⟨_,rfl,rfl,rfl⟩⟩
      ·cases h
     obtain⟨rfl,rfl,hij⟩:=hx;have hl1:∀id∈l1,id∈all:=fun id hid=>hl id (by simp[hid]);have hm:∀id∈m,id∈all:=fun id hid=>hl id (by simp[hid]);have hB:∀id∈l1,∀b,G.γ id=some b->Bor G all b:=fun id hid b hb=>.inr ⟨id,hl1 id hid,hb⟩;obtain⟨hm2,go,hR,hgo⟩:=e0L S hall h2 hm (fun i hi=>by
      rcases hij with ⟨_,e⟩ | ⟨i',_,e,_⟩
      ·exact hio i (by rw[e]; exact hi)
      ·rw[e] at hi; cases hi) hA'
     have hids:(∀id∈l1,∃ob,lku G.o id=some ob)->∀id∈l1++m,∃ob,lku G.o id=some ob:=fun h id hid=>by
      rcases List.mem_append.1 hid with h' | h'
      ·exact h id h'
      ·exact hm2 id h'
     unfold t0r at h1;split at h1
     ·split at h1
      ·rename_i x0 l0 f0 hd;simp only[oi,pj] at h1;obtain⟨rfl,rfl,rfl⟩:=h1;refine⟨hids (c0F 24 hd),go,⟨u,us',rfl,RT.up (b0O S hK 24 hd hB ⟨u,[],rfl,hu,rfl⟩) (fun k h=>h.1),hR⟩,?_⟩;rcases hij with ⟨_,e⟩ | ⟨i',e,_⟩
       ·rw[e]; exact hgo
       ·cases e
      ·cases h1
     ·split at h1
      ·rename_i x0 l0 f0 hd;simp only[oi,pj] at h1;obtain⟨rfl,rfl,rfl⟩:=h1;obtain⟨cs,rfl,hcs⟩:=hu;refine⟨hids (c0F 24 hd),go,⟨cs,us',rfl,RT.up (b0O S hK 24 hd hB hcs) (fun k h=>h.1),hR⟩,?_⟩;rcases hij with ⟨_,e⟩ | ⟨i',e,_⟩
       ·rw[e]; exact hgo
       ·cases e
      ·cases h1
     ·rw[ce] at h1;split at h1
      ·rename_i hf;split at h1
       ·rename_i x0 l0 f0 hd;simp only[oi,pj] at h1;obtain⟨rfl,rfl,rfl⟩:=h1;obtain⟨cs,rfl,hcs⟩:=hu;refine⟨hids (c0F 24 hd),go,⟨cs,us',by rw[nb hf],RT.up (b0O S hK 24 hd hB hcs) (fun k h=>h.1),hR⟩,?_⟩;rcases hij with ⟨_,e⟩ | ⟨i',e,_⟩
        ·rw[e]; exact hgo
        ·cases e
       ·cases h1
      ·cases h1
     ·rw[ce] at h1;split at h1
      ·rename_i hf;simp only[oi,pj] at h1;obtain⟨_,rfl,rfl⟩:=h1;obtain⟨cs,rfl,hcs⟩:=hu;have hcs:cs=[]:=hcs;subst hcs;refine⟨hids (fun id h=>by cases h),go,⟨us',by rw[nb hf],hR⟩,?_⟩;rcases hij with ⟨_,e⟩ | ⟨i',e,_⟩
       ·rw[e]; exact hgo
       ·cases e
      ·cases h1
     ·rename_i T t id _;split at h1
      ·rename_i T' cs ho;rw[ce] at h1;split at h1
       ·rename_i hT;have hT:=nb hT;subst hT;split at h1
        ·rename_i x0 f0 hd;simp only[oi,pj] at h1;obtain⟨rfl,rfl,rfl⟩:=h1;rcases hij with ⟨e,_⟩ | ⟨i',e,rfl,rfl⟩
         ·cases e
         cases e;obtain⟨_,b,hb,rfl⟩:=hu;obtain⟨b',vs,g1,g2,g3,g4⟩:=S.obs id _ ho;rw[hb] at g2;cases g2;rcases hgo with ⟨_,rfl⟩ | ⟨_,_,_,_,e,_⟩ | ⟨_,_,_,_,_,_,e,_⟩
         ·refine⟨hids (fun id h=>by cases h),some b,⟨b,vs,us',rfl,rfl,?_,g3,RT.up (b0O S hK 24 hd hB g4) (fun k h=>h.1),hR⟩,.inr (.inl ⟨id,b,T,cs,rfl,rfl,ho,g1⟩)⟩;rintro(h | ⟨i2,h2,h3⟩)
          ·exact S.imm id _ b ho g1 h
          ·obtain⟨ob2,h4⟩:=hall i2 h2;have:=S.inj i2 id _ _ b h4 ho h3 g1;subst this;exact hio i2 rfl h2
         ·cases e
         ·cases e
        ·cases h1
       ·cases h1
      ·cases h1
     ·rename_i E t id ver _;split at h1
      ·rename_i E' fr t' xs ver' ho;rw[ce] at h1;split at h1
       ·rename_i hb;rw[ba] at hb;have e1:=nb hb.1;have e2:=nb hb.2;subst e1; subst e2;split at h1
        ·rename_i x0 hc;simp only[oi,pj] at h1;obtain⟨rfl,rfl,rfl⟩:=h1;rcases hij with ⟨e,_⟩ | ⟨i',e,rfl,rfl⟩
         ·cases e
         cases e;obtain⟨et,rfl⟩:=c0k hc;cases et;obtain⟨ho1,T1,fr1,t1,xs1,ver1,g1,g2,g3⟩:=hu;rw[ho] at g1;cases g1;have hu:=g3 rfl;obtain⟨cs,hO,hAr,_⟩:=S.obs id _ ho;rcases hgo with ⟨_,rfl⟩ | ⟨_,_,_,_,e,_⟩ | ⟨_,_,_,_,_,_,e,_⟩
         ·refine⟨hids (fun id h=>by cases h),G.γ id,⟨u,cs,us',rfl,?_,ho1,by rw[hu]; exact hO,hAr.mapR (fun c x h=>RT.up h (fun k hk=>.inl hk.1)),hR⟩,.inr (.inr ⟨id,_,fr,_,_,_,rfl,rfl,ho,rfl⟩)⟩;intro b hg;rintro(h | ⟨i2,h2,h3⟩)
          ·exact S.imm id _ b ho hg h
          ·obtain⟨ob2,h4⟩:=hall i2 h2;have:=S.inj i2 id _ _ b h4 ho h3 hg;subst this;exact hio i2 rfl h2
         ·cases e
         ·cases e
        ·cases h1
       ·cases h1
      ·cases h1
     ·cases h1
    ·cases h
   ·cases h
end Go.Proofs.Xv
end
