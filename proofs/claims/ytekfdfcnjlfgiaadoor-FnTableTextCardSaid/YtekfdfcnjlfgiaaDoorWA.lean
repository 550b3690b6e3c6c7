/- Plain words on names: no program in sight. -/
import Derived.Test.YtekfdfcnjlfgiaaDoorXA
import Derived.Lib.SlTrimSet
import Derived.Lib.Bytealg
import Derived.Test.YtekfdfcnjlfgiaaDoorXF
import Derived.Lib.ParseIntB
import Derived.Lib.SplitLaws
import Derived.Test.YtekfdfcnjlfgiaaDoorFB3a
set_option maxHeartbeats 0
section
namespace Go.Proofs.Sv
open Go
end Go.Proofs.Sv
end
section
namespace Go.Proofs.Xd
open Go Go.Proofs.Xv Go.Proofs.Xl Go.Proofs.Sv
def pushN{α:Type}(s:List α)(p:Nat->α)(n:Nat):List α:=s++(List.range n).map p
theorem pushN_zero{α:Type}(s:List α)(p:Nat->α):pushN s p 0=s:=by simp[pushN]
theorem pushN_succ{α:Type}(s:List α)(p:Nat->α)(n:Nat):pushN s p (n+1)=pushN s p n++[p n]:=by simp[pushN,List.range_succ]
theorem pushN_len{α:Type}(s:List α)(p:Nat->α)(n:Nat):(pushN s p n).length=s.length+n:=by simp[pushN]
theorem lp_push{α τ ρ:Type}{n:Nat}(hn:n<=9223372036854775807)(mk:Nat->List α->τ)(p:Nat->α)(s0:List α){J:List α->Option ρ}{F:(τ->Option ρ)->τ->Option ρ}
  (hF:∀g i s,i<n->s=pushN s0 p i->F g (mk i s)=g (mk (i+1) (s++[p i]))) (hE:∀g s,s=pushN s0 p n->F g (mk n s)=J s):lp F (mk 0 s0)=J (pushN s0 p n) :=
 lp_run hn mk (fun i s=>some (s++[p i])) (fun _ _=>none) (fun i s=>s=pushN s0 p i) (J:=J) (F:=F) hF (fun i s s' _ hs h=>by cases h; rw[hs,pushN_succ]) hE (fun _ _=>J (pushN s0 p n)) (fun s hs=>by rw[hs]) (fun _ _ _ _=>rfl) 0 (Nat.zero_le _) s0 (pushN_zero _ _).symm
def fillN{α:Type}(z:α)(p:Nat->α)(n i:Nat):List α:=(List.range i).map p++List.replicate (n-i) z
theorem fillN_zero{α:Type}(z:α)(p:Nat->α)(n:Nat):fillN z p n 0=List.replicate n z:=by simp[fillN]
theorem fillN_full{α:Type}(z:α)(p:Nat->α)(n:Nat):fillN z p n n=(List.range n).map p:=by simp[fillN]
theorem fillN_len{α:Type}(z:α)(p:Nat->α){n i:Nat}(h:i<=n):(fillN z p n i).length=n:=by simp[fillN]; omega
theorem fillN_set{α:Type}(z:α)(p:Nat->α){n i:Nat}(h:i<n):(fillN z p n i).set i (p i)=fillN z p n (i+1):=by
 unfold fillN;rw[List.set_append_right _ _ (by simp)];simp only[List.length_map,List.length_range,Nat.sub_self,List.range_succ,List.map_append,List.map_cons,List.map_nil,List.append_assoc];rw[show n-i=(n-(i+1))+1 by omega,List.replicate_succ,List.set_cons_zero];rfl
theorem lp_fill{α τ ρ:Type}{n:Nat}(hn:n<=9223372036854775807)(mk:Nat->List α->τ)(z:α)(p:Nat->α){J:List α->Option ρ}{F:(τ->Option ρ)->τ->Option ρ}
  (hF:∀g i s,i<n->s=fillN z p n i->F g (mk i s)=g (mk (i+1) (s.set i (p i)))) (hE:∀g s,s=(List.range n).map p->F g (mk n s)=J s):lp F (mk 0 (List.replicate n z))=J ((List.range n).map p) :=
 lp_run hn mk (fun i s=>some (s.set i (p i))) (fun _ _=>none) (fun i s=>s=fillN z p n i) (J:=J) (F:=F) hF (fun i s s' hi hs h=>by cases h; rw[hs,fillN_set z p hi]) (fun g s hs=>hE g s (by rw[hs,fillN_full])) (fun _ _=>J ((List.range n).map p)) (fun s hs=>by rw[hs,fillN_full]) (fun _ _ _ _=>rfl) 0 (Nat.zero_le _) _ (fillN_zero _ _ _).symm
def bs(s:ByteArray):List UInt8:=s.data.toList
theorem ba_bs(s:ByteArray):(⟨(bs s).toArray⟩:ByteArray)=s:=by simp[bs]
theorem bs_len(s:ByteArray):(bs s).length=s.size:=Array.length_toList
def joinS(l:List ByteArray)(sep:ByteArray):ByteArray:=⟨(Lib.join (l.map bs) (bs sep)).toArray⟩
theorem joinS_one(a sep:ByteArray):joinS [a] sep=a:=by
 unfold joinS;rw[List.map_singleton,Lib.join_one,ba_bs]
theorem joinS_len{l:List ByteArray}{sep:ByteArray}{M:Nat}:(∀x∈l,x.size+sep.size<=M)->(joinS l sep).size<=l.length*M:=by
 intro h
 suffices ∀k,k<=l.length->(joinS (l.take k) sep).size<=k*M by have:=this l.length (Nat.le_refl _); rwa [List.take_length] at this
 intro k
 induction k with
 | zero=>intro _; simp[joinS,Lib.join,ByteArray.size]
 | succ k ih =>
   intro hk;have ih:=ih (by omega);have hx:=h l[k] (List.getElem_mem _);rw[List.take_succ_eq_append_getElem (by omega:k<l.length)];unfold joinS at ih ⊢;rw[List.map_append,List.map_singleton,join_snoc];rw[ba_size] at ih ⊢;have e1:=bs_len l[k];have e2:=bs_len sep;rw[Nat.add_mul,Nat.one_mul];split
   ·omega
   ·rw[List.length_append,List.length_append]; omega
end Go.Proofs.Xd
end
section
namespace Go.Proofs.Sv
open Go
theorem pum_app(M:Nat)(m:List UInt8):∀(l:List UInt8) (acc:Nat),Lib.parseUintM M acc (l++m)=match Lib.parseUintM M acc l with | .ok a=>Lib.parseUintM M a m | e=>e
 | [],acc=>rfl
 | c :: r,acc=>by
   simp only[List.cons_append,Lib.parseUintM];split
   ·split
    ·rfl
    ·split
     ·rfl
     ·exact pum_app M m r _
   ·rfl
theorem dig_nat(d:Nat)(h:d<10):(UInt8.ofNat (48+d)).toNat=48+d:=by
 rw[UInt8.toNat_ofNat']; omega
theorem pum_dec(u:Nat):u<=9223372036854775808->Lib.parseUintM (2 ^ 64-1) 0 (Lib.decDigits u)=.ok u:=by
 induction u using Nat.strongRecOn with | ind u ih=>?_
 intro h;by_cases h10:u<10
 ·rw[decDigits_small h10];simp only[Lib.parseUintM,dig_nat u h10];rw[if_pos (by omega),if_neg (by omega),if_neg (by omega)];congr 1; omega
 ·rw[decDigits_big h10,pum_app,ih (u / 10) (by omega) (by omega)];have hd:u % 10<10:=Nat.mod_lt _ (by omega);simp only[Lib.parseUintM,dig_nat _ hd];rw[if_pos (by omega),if_neg (by omega),if_neg (by omega)];congr 1; omega
theorem dec_digits(u:Nat):∀c∈Lib.decDigits u,48<=c.toNat/\c.toNat<=57:=by
 induction u using Nat.strongRecOn with | ind u ih=>?_
 intro c hc;by_cases h10:u<10
 ·rw[decDigits_small h10,List.mem_singleton] at hc;rw[hc,dig_nat u h10]; omega
 ·rw[decDigits_big h10,List.mem_append,List.mem_singleton] at hc;rcases hc with hc | hc
  ·exact ih (u / 10) (by omega) c hc
  ·rw[hc,dig_nat _ (Nat.mod_lt _ (by omega))]; have:=Nat.mod_lt u (show 0<10 by omega); omega
theorem dec_ne(u:Nat):Lib.decDigits u≠[]:=by
 by_cases h10:u<10
 ·rw[decDigits_small h10]; simp
 ·rw[decDigits_big h10]; simp
theorem parse_itoa{x:Int}(h:InI x):Lib.parseIntB 64 (Lib.itoa x)=.ok x:=by
 obtain⟨h0,h1⟩:=h;rcases Int.lt_or_le x 0 with hx | hx
 ·rw[itoa_neg' hx];obtain⟨u,hu⟩:=Int.eq_ofNat_of_zero_le (show 0 <= -x by omega);rw[hu,Int.toNat_natCast];have hp:=pum_dec u (by omega);have e:Lib.parseUintB 64 (Lib.decDigits u)=.ok u:=by unfold Lib.parseUintB; rw[if_neg (dec_ne u)]; exact hp
  have e45:(45:UInt8).toNat=45:=rfl;simp only[Lib.parseIntB,e45,or_true,if_true,e];rw[if_neg (by simp),if_neg (by simp; omega)];congr 1; omega
 ·obtain⟨u,rfl⟩:=Int.eq_ofNat_of_zero_le hx;rw[itoa_nat];have hp:=pum_dec u (by omega);have e:Lib.parseUintB 64 (Lib.decDigits u)=.ok u:=by unfold Lib.parseUintB; rw[if_neg (dec_ne u)]; exact hp
  cases hd:Lib.decDigits u with
  | nil=>exact(dec_ne u hd).elim
  | cons c r =>
    have hc:=dec_digits u c (by rw[hd]; simp);rw[hd] at e;have n1:¬c.toNat=43:=by omega
    have n2:¬c.toNat=45:=by omega
    simp only[Lib.parseIntB,n1,n2,or_self,if_false,e];rw[if_neg (by simp; omega),if_neg (by simp)]
theorem index_none(c:UInt8):∀x:List UInt8,c ∉ x->Lib.index x [c] = -1
 | [],_=>rfl
 | b :: l,h=>by
   have hb:¬c=b:=fun e=>h (by simp[e]);have ih:=index_none c l (fun e=>h (by simp[e]));unfold Lib.index;have hp:List.isPrefixOf [c] (b :: l)=false:=by simp[List.isPrefixOf,hb]
   rw[hp,ih]; rfl
theorem index_word(c:UInt8)(r:List UInt8):∀x:List UInt8,c ∉ x->Lib.index (x++c :: r) [c]=(x.length:Int)
 | [],_=>by simp[Lib.index,List.isPrefixOf]
 | b :: l,h=>by
   have hb:¬c=b:=fun e=>h (by simp[e]);have ih:=index_word c r l (fun e=>h (by simp[e]));have hp:List.isPrefixOf [c] (b :: (l++c :: r))=false:=by simp[List.isPrefixOf,hb]
   rw[List.cons_append];unfold Lib.index;rw[hp,ih];have:((l.length:Int) == -1)=false:=by rw[beq_eq_false_iff_ne]; omega
   simp[this]
theorem join_cons2(c:UInt8)(x y:List UInt8)(r:List (List UInt8)):Lib.join (x :: y :: r) [c]=x++c :: Lib.join (y :: r) [c]:=by
 rw[Lib.join_cons,Lib.join_cons]; simp[Lib.joinTail]
theorem splitK_join(c:UInt8):∀(xs:List (List UInt8)),xs≠[]->(∀x∈xs,c ∉ x)->∀k,xs.length<=k+1->Lib.splitK [c] 0 k (Lib.join xs [c])=xs
 | [],h,_,_,_=>(h rfl).elim
 | [x],_,hc,k,_=>by
   rw[Lib.join_one];cases k with
   | zero=>rfl
   | succ k=>unfold Lib.splitK; rw[index_none c x (hc x (by simp))]; rfl
 | x :: y :: r,_,hc,k,hk=>by
   cases k with
   | zero=>simp at hk
   | succ k =>
     rw[join_cons2];have ih:=splitK_join c (y :: r) (by simp) (fun z hz=>hc z (by simp at hz ⊢; right; exact hz)) k (by simp at hk ⊢; omega);unfold Lib.splitK;rw[index_word c _ x (hc x (by simp))];have:((x.length:Int) == -1)=false:=by rw[beq_eq_false_iff_ne]; omega
     rw[this];have e1:List.drop (x.length+1) (x++c :: Lib.join (y :: r) [c])=Lib.join (y :: r) [c]:=by
      rw[List.drop_append]; simp
     simp[e1,ih]
theorem count_join(c:UInt8):∀(xs:List (List UInt8)),xs≠[]->(∀x∈xs,c ∉ x)->(Lib.join xs [c]).count c+1=xs.length
 | [],h,_=>(h rfl).elim
 | [x],_,hc=>by rw[Lib.join_one,List.count_eq_zero_of_not_mem (hc x (by simp))]; rfl
 | x :: y :: r,_,hc=>by
   have ih:=count_join c (y :: r) (by simp) (fun z hz=>hc z (by simp at hz ⊢; right; exact hz));rw[join_cons2,List.count_append,List.count_cons_self,List.count_eq_zero_of_not_mem (hc x (by simp))];simp at ih ⊢; omega
theorem splitB_join(c:UInt8)(xs:List (List UInt8))(hx:xs≠[])(hc:∀x∈xs,c ∉ x) :
  Lib.countB ⟨(Lib.join xs [c]).toArray⟩ ⟨#[c]⟩+1=xs.length/\Lib.splitB ⟨#[c]⟩ 0 (Lib.countB ⟨(Lib.join xs [c]).toArray⟩ ⟨#[c]⟩) ⟨(Lib.join xs [c]).toArray⟩=xs.map (fun l=>(⟨l.toArray⟩:ByteArray)):=by
 have h1:Lib.countB ⟨(Lib.join xs [c]).toArray⟩ ⟨#[c]⟩=(Lib.join xs [c]).count c:=Lib.count_one c _;have h2:=count_join c xs hx hc;refine⟨by rw[h1]; exact h2,?_⟩;have h3:=Lib.splitB_data ⟨#[c]⟩ 0 (Lib.countB ⟨(Lib.join xs [c]).toArray⟩ ⟨#[c]⟩) ⟨(Lib.join xs [c]).toArray⟩;have h4:Lib.splitK [c] 0 (Lib.countB ⟨(Lib.join xs [c]).toArray⟩ ⟨#[c]⟩) (Lib.join xs [c])=xs:=splitK_join c xs hx hc _ (by rw[h1]; omega);have h5:(Lib.splitB ⟨#[c]⟩ 0 (Lib.countB ⟨(Lib.join xs [c]).toArray⟩ ⟨#[c]⟩) ⟨(Lib.join xs [c]).toArray⟩).map (·.data.toList)=xs:=h3.trans h4;generalize Lib.splitB ⟨#[c]⟩ 0 (Lib.countB ⟨(Lib.join xs [c]).toArray⟩ ⟨#[c]⟩) ⟨(Lib.join xs [c]).toArray⟩=ys at h5;rw[<- h5,List.map_map];have:((fun l:List UInt8=>(⟨l.toArray⟩:ByteArray)) ∘ fun b:ByteArray=>b.data.toList)=id:=by funext b; cases b; simp
 rw[this]; simp
end Go.Proofs.Sv
end
section
namespace Go.Proofs.YtekfdfcnjlfgiaaDoor
open Go Go.Proofs Go.Proofs.Sv Go.Proofs.Xv Go.Proofs.Xl Go.Proofs.Xd
theorem gd_ex{ρ:Type}{V:Prop}[Decidable V]{e:Option ρ}{P:ρ->Prop}(hV:V)(h:∃r,e=some r/\P r):∃r,gd V e=some r/\P r:=by grind[gP]
theorem lp_ex{σ ρ:Type}{F:(σ->Option ρ)->σ->Option ρ}(μ:σ->Nat)(I:σ->Prop){P:ρ->Prop}(hF:∀g s,I s->(∀s',I s'->μ s'<μ s->∃r,g s'=some r/\P r)->∃r,F g s=some r/\P r){s:σ}(hI:I s)(hμ:μ s<=18446744073709551616):∃r,lp F s=some r/\P r:=by
 have key:∀n s,I s->μ s<n->∃r,itF F n s=some r/\P r:=by
  intro n
  induction n with
  | zero=>omega
  | succ n ih =>
    intro s hI h;exact hF (itF F n) s hI fun s' hI' h'=>ih s' hI' (by omega)
 exact key big s hI (by grind[big])
end Go.Proofs.YtekfdfcnjlfgiaaDoor
end
section
namespace Go.Proofs.Xd
open Go Go.Proofs.Xv Go.Proofs.Xl
abbrev DTbl:=List Int×List Int×List Int
def inB(x l h:Int):Bool:=decide (l<=x)&&decide (x<=h)
def incB(xs:List Int):Bool:=!(List.range xs.length).any fun i=>decide (0<i)&&decide (xs.getD i 0<=xs.getD (i-1) 0)
def isAxis(xs:List Int):Bool:=decide (1<=xs.length)&&decide (xs.length<=4)&&xs.all (inB · 0 100000)&&incB xs
def isTable(t:DTbl):Bool:=isAxis t.1&&isAxis t.2.1&&decide (t.2.2.length=t.1.length*t.2.1.length)&&t.2.2.all (inB · (-1000000) 1000000)
theorem axis_len{xs:List Int}(h:isAxis xs=true):1<=xs.length/\xs.length<=4:=by
 simp only[isAxis,ba,dq] at h;exact⟨h.1.1.1,h.1.1.2⟩
theorem table_len{t:DTbl}(h:isTable t=true):1<=t.1.length/\t.1.length<=4/\1<=t.2.1.length/\t.2.1.length<=4/\t.2.2.length=t.1.length*t.2.1.length/\1<=t.2.2.length/\t.2.2.length<=16:=by
 simp only[isTable,ba,dq] at h;obtain⟨⟨⟨h1,h2⟩,h3⟩,_⟩:=h;obtain⟨a1,a2⟩:=axis_len h1;obtain⟨b1,b2⟩:=axis_len h2;have c1:1*1<=t.1.length*t.2.1.length:=Nat.mul_le_mul a1 b1;have c2:t.1.length*t.2.1.length<=4*4:=Nat.mul_le_mul a2 b2;exact⟨a1,a2,b1,b2,h3,by omega,by omega⟩
theorem all_any{α:Type}(l:List α)(p:α->Bool):(!l.any fun x=>!p x)=l.all p:=by
 induction l with
 | nil=>rfl
 | cons a r ih=>simp only[List.any_cons,List.all_cons,Bool.not_or,Bool.not_not,ih]
end Go.Proofs.Xd
end
section
namespace Go.Proofs.YtekfdfcnjlfgiaaDoor
open Go Go.Proofs Go.Proofs.Xv Go.Proofs.Xl Go.Proofs.Xd
theorem r31(a b c:Int):u31 a b c=some (inB a b c):=rfl
theorem r18(a b c:Int):u18 a b c=some (inB a b c):=rfl
theorem r35(a b c:Int):u35 a b c=some (!inB a b c):=by
 unfold u35;rw[r31,gP ⟨rfl,trivial⟩,vS]
theorem r34c35(xs:List Int)(b c:Int)(h:xs.length<=9223372036854775807):u34c35 xs (b,c)=some (xs.any fun x=>!inB x b c):=by
 have h1:u44c35 xs (b,c)=_:=idx_some h (fun i=>!inB (xs.getD i 0) b c) (fun g i hi=>idx_el hi h (r35 _ _ _)) (fun g=>aE);have:=has_some h1;rw[any_getD xs 0 (fun x=>!inB x b c)] at this;exact this
theorem r20(xs:List Int)(b c:Int)(h:xs.length<=9223372036854775807):u20 xs b c=some (xs.all (inB · b c)):=by
 unfold u20;rw[r34c35 _ _ _ h,gP ⟨rfl,trivial⟩,vS,all_any]
theorem r33(xs:List Int)(h:xs.length<=9223372036854775807)(h1:1<=xs.length):u33 xs=some (incB xs):=by
 have key:=lp_allK h (fun i=>decide (xs.getD i 0<=xs.getD (i-1) 0)) (some false) (e:=some true) (F:=u33L1 xs) 1 h1 (fun g i hk hi=>by
  have e:((i:Int)-1).toNat=i-1:=by omega
  refine(all_el hi h ⟨oo,oo,oo,trivial⟩).trans ?_;rw[e]; rfl) (fun g=>aE)
 refine key.trans ?_;unfold incB
 grind
theorem r19(xs:List Int)(h:xs.length<=9223372036854775807):u19 xs=some (isAxis xs):=by
 unfold u19;have e:u32 xs=some (xs.length:Int):=rfl;have ed:∀a:Bool,(a=true->1<=xs.length)->(a=true/\True->(u33 xs).isSome=true):=fun a ha hc=>by grind[r33]
 rw[e,vS,r31,vS,r20 xs 0 100000 h,vS,gP ⟨rfl,rfl,fun _=>rfl,ed _ (fun hc=>by
  grind[inB]),trivial⟩]
 congr 1;unfold isAxis;by_cases h1:1<=xs.length
 ·rw[r33 xs h h1,vS]
  grind[inB]
 grind[decide,inB]
theorem r17(xs:List Int)(h:xs.length<=9223372036854775807):u17 xs=some (isAxis xs):=by
 have key:=lp_all (n:=xs.length) h (fun i=>!inB (xs.getD i 0) 0 100000||decide (0<i)&&decide (xs.getD i 0<=xs.getD (i-1) 0)) (some false) (e:=u17J0 xs ()) (F:=u17L1 xs) (fun g i hi=>by
  have e:((i:Int)-1).toNat=i-1:=by omega
  have e2:decide ((0:Int) < (i:Int))=decide (0<i):=by rw[decide_eq_decide]; omega
  refine(all_el hi h ⟨oo,rfl,fun hc=>oo,fun hc=>⟨by have:=hc.1; simp at this; omega,by omega⟩,fun hc=>oo,trivial⟩).trans ?_;rw[e,r18,vS,e2]; rfl) (fun g=>aE)
 refine key.trans ?_;unfold isAxis u17J0;have e3:((List.range xs.length).any fun i=>!inB (xs.getD i 0) 0 100000||decide (0<i)&&decide (xs.getD i 0<=xs.getD (i-1) 0))=!(xs.all (inB · 0 100000)&&incB xs):=by
  rw[<- all_any,<- any_getD xs 0 (fun x=>!inB x 0 100000),incB,<- Bool.not_or,Bool.not_not];rw[Bool.eq_iff_iff,Bool.or_eq_true,List.any_eq_true,List.any_eq_true,List.any_eq_true];constructor
  ·rintro⟨i,h1,h2⟩;rcases Bool.or_eq_true _ _ ▸ h2 with h3 | h3
   ·exact .inl ⟨i,h1,h3⟩
   ·exact .inr ⟨i,h1,h3⟩
  ·rintro(⟨i,h1,h2⟩ | ⟨i,h1,h2⟩)
   ·exact⟨i,h1,by rw[h2]; rfl⟩
   ·exact⟨i,h1,by rw[h2,Bool.or_true]⟩
 rw[e3];cases hA:(xs.all (inB · 0 100000)&&incB xs) with
 | false=>grind
 | true =>
   rw[if_neg (by simp),Bool.and_assoc,hA,Bool.and_true];refine congrArg some ?_
   grind
theorem r9(t:Y26)(hw:wf y26 t):u9 t=some (isTable t):=by
 obtain⟨⟨h1,_⟩,⟨h2,_⟩,h3,_⟩:=hw;unfold u9;have hb:(isAxis t.1&&isAxis t.2.1)=true/\True->in64 ((t.1.length:Int)*(t.2.1.length:Int)):=fun hc=>by
  have hc:=hc.1;rw[ba] at hc;obtain⟨a1,a2⟩:=axis_len hc.1;obtain⟨b1,b2⟩:=axis_len hc.2;have c2:t.1.length*t.2.1.length<=4*4:=Nat.mul_le_mul a2 b2;have e:(t.1.length:Int)*(t.2.1.length:Int)=((t.1.length*t.2.1.length:Nat):Int):=by simp
  rw[e];exact oo
 rw[r19 _ h1,r19 _ h2,r20 _ _ _ h3,vS,vS,vS,gP ⟨rfl,fun _=>rfl,hb,fun _=>rfl,trivial⟩];congr 1
 grind[isTable]
theorem r8(t:Y26)(hw:wf y26 t):u8 t=some (isTable t):=by
 obtain⟨⟨h1,_⟩,⟨h2,_⟩,h3,_⟩:=hw;unfold u8;have hb:(!isAxis t.1||!isAxis t.2.1)=false/\True->in64 ((t.1.length:Int)*(t.2.1.length:Int)):=fun hc=>by
  have hc:=hc.1;simp only[Bool.or_eq_false_iff,Bool.not_eq_false'] at hc;obtain⟨a1,a2⟩:=axis_len hc.1;obtain⟨b1,b2⟩:=axis_len hc.2;have c2:t.1.length*t.2.1.length<=4*4:=Nat.mul_le_mul a2 b2;have e:(t.1.length:Int)*(t.2.1.length:Int)=((t.1.length*t.2.1.length:Nat):Int):=by simp
  rw[e];exact oo
 rw[r17 _ h1,r17 _ h2,vS,vS,gP ⟨rfl,fun _=>rfl,hb,trivial⟩];have key:=lp_all (n:=t.2.2.length) h3 (fun i=>!inB (t.2.2.getD i 0) (-1000000) 1000000) (some false) (e:=some true) (F:=u8L1 t) (fun g i hi=>all_el hi h3 ⟨oo,rfl,trivial⟩) (fun g=>aE);rw[key,any_getD t.2.2 0 (fun x=>!inB x (-1000000) 1000000)];have e:((t.2.2.length:Int) != (t.1.length:Int)*(t.2.1.length:Int))=!decide (t.2.2.length=t.1.length*t.2.1.length):=by
  rw[Bool.eq_iff_iff];simp only[bne_iff_ne,Bool.not_eq_true',decide_eq_false_iff_not,ne_eq];constructor
  ·intro h k; exact h (by exact_mod_cast k)
  ·intro h k; exact h (by exact_mod_cast k)
 grind[isTable,all_any,isAxis,decide,inB]
end Go.Proofs.YtekfdfcnjlfgiaaDoor
end
section
namespace Go.Proofs.YtekfdfcnjlfgiaaDoor
open Go Go.Proofs Go.Proofs.Sv Go.Proofs.Xv Go.Proofs.Xl Go.Proofs.Xd
def Sd(s:Y52):Prop:=sd s/\s.1.length<=9223372036854775807/\∀b∈s.1,0<=b/\b<=255
theorem Sd.sd{s:Y52}(h:Sd s):YtekfdfcnjlfgiaaDoor.sd s:=h.1
theorem nxt_ok{s:Y52}{n:Int}(h:Sd s)(hn:n<=9223372036854775807):∃v s',u27 s n=some (v,s')/\Sd s'/\0<=v/\(1<=n->v<n)/\(n<=1->v=0):=by
 obtain⟨⟨h1,h2,h3⟩,h4,h5⟩:=h;have hM:∀x:Int,0<=x->0<=x.tmod 2147483647/\x.tmod 2147483647<2147483647:=fun x hx=>⟨Int.tmod_nonneg _ hx,Int.tmod_lt_of_pos x (by omega)⟩;unfold u27;by_cases c1:n<=1
 ·rw[if_pos (decide_eq_true c1)];exact⟨0,_,rfl,⟨⟨h1,h2,h3⟩,h4,h5⟩,by omega,by omega,fun _=>rfl⟩
 ·rw[if_neg (by grind)];by_cases c2:s.2.1 < (s.1.length:Int)
  ·rw[if_pos (decide_eq_true c2)];have hb:0<=s.1.getD s.2.1.toNat 0/\s.1.getD s.2.1.toNat 0<=255:=by
    have hlt:s.2.1.toNat<s.1.length:=by omega
    rw[gq,List.getElem?_eq_getElem hlt];exact h5 _ (List.getElem_mem hlt)
   rw[gP ⟨⟨h1,c2⟩,trivial,trivial⟩,gP ⟨oo,trivial⟩];by_cases c3:n<=256
   ·rw[if_pos (decide_eq_true c3),gP ⟨by omega,trivial⟩];exact⟨_,_,rfl,⟨⟨by grind,h2,h3⟩,h4,h5⟩,Int.tmod_nonneg _ hb.1,fun _=>Int.tmod_lt_of_pos _ (by omega),fun h=>(c1 h).elim⟩
   ·rw[if_neg (by grind),gP ⟨oo,oo,oo,by omega,trivial⟩,lE,gP ⟨by omega,trivial⟩];have hx:=hM (s.2.2*48271+s.1.getD s.2.1.toNat 0+1) (by omega);exact⟨_,_,rfl,⟨⟨by grind,hx.1,hx.2⟩,h4,h5⟩,Int.tmod_nonneg _ hx.1,fun _=>Int.tmod_lt_of_pos _ (by omega),fun h=>(c1 h).elim⟩
  ·rw[if_neg (by grind),gP ⟨oo,oo,by omega,trivial⟩,gP ⟨by omega,by omega,trivial⟩];have hx:=hM (s.2.2*48271+11) (by omega);exact⟨_,_,rfl,⟨⟨h1,hx.1,hx.2⟩,h4,h5⟩,Int.tmod_nonneg _ (Int.tdiv_nonneg hx.1 (by omega)),fun _=>Int.tmod_lt_of_pos _ (by omega),fun h=>(c1 h).elim⟩
theorem axis_ok{s:Y52}{n:Int}(h:Sd s)(h1:1<=n)(h2:n<=1000):∃r,u37 s n=some r/\Sd r.2/\1<=r.1.length/\r.1.length<=3/\∀y∈r.1,0<=y/\y<=5000:=by
 obtain⟨v0,s0,e0,hs0,a0,b0,_⟩:=nxt_ok (n:=n) h (by omega);obtain⟨v1,s1,e1,hs1,a1,b1,_⟩:=nxt_ok (n:=3) hs0 (by omega);have b0:=b0 h1;have b1:=b1 (by omega);unfold u37;simp only[e0,e1,vS,lE,Option.isSome_some];refine gd_ex ⟨trivial,trivial⟩ (gd_ex ⟨trivial,oo,trivial⟩ ?_);refine lp_ex (fun x=>x.2.1.toNat) (fun x=>Sd (x.2.2.1,x.2.2.2.1,x.2.2.2.2.1)/\0<=x.1/\x.1+1001*x.2.1<=5000/\0<=x.2.1/\1<=(x.2.2.2.2.2.length:Int)+x.2.1/\(x.2.2.2.2.2.length:Int)+x.2.1<=3/\∀y∈x.2.2.2.2.2,0<=y/\y<=5000) ?_ ⟨hs1,by omega,by grind,by grind,by grind,by grind,by simp⟩ (by grind);rintro g ⟨x,m,c,at0,sd0,out⟩ ⟨i1,i2,i3,i4,i5,i6,i7⟩ ih;simp only at i1 i2 i3 i4 i5 i6 i7;unfold u37L1;dsimp only;by_cases cm:0<m
 ·obtain⟨v,s',e,hs',a,b,_⟩:=nxt_ok (n:=n) i1 (by omega);have b:=b h1;simp only[e,vS,lE,Option.isSome_some];rw[if_pos (decide_eq_true cm)];refine gd_ex ⟨⟨by grind,by grind⟩,trivial⟩ (gd_ex ⟨oo,trivial,oo,trivial⟩ (gd_ex ⟨oo,trivial⟩ ?_));exact ih _ ⟨hs',by omega,by grind,by grind,by grind,by grind,fun y hy=>by
   rcases List.mem_append.1 hy with hy | hy
   ·exact i7 y hy
   ·rw[List.mem_singleton.1 hy]; omega⟩ (by grind)
 ·rw[if_neg (by grind)];exact⟨_,rfl,i1,by grind,by grind,i7⟩
def tabS(t:Y26):Prop:=(1<=t.1.length/\t.1.length<=3)/\(1<=t.2.1.length/\t.2.1.length<=3)/\(1<=t.2.2.length/\t.2.2.length<=9)/\(∀y∈t.1,0<=y/\y<=5000)/\(∀y∈t.2.1,0<=y/\y<=5000)/\∀y∈t.2.2,-2000<=y/\y<=3000
theorem tab_ok{s:Y52}{base:Int}(h:Sd s)(h1 : -1000<=base)(h2:base<=1000):∃r,u26 s base=some r/\Sd r.2/\tabS r.1:=by
 obtain⟨⟨x0,s0⟩,e0,hs0,a0,b0,c0⟩:=axis_ok (n:=60) h (by omega) (by omega);obtain⟨⟨x1,s1⟩,e1,hs1,a1,b1,c1⟩:=axis_ok (n:=40) hs0 (by omega) (by omega);simp only at hs0 a0 b0 c0 hs1 a1 b1 c1 e0 e1;unfold u26;simp only[e0,e1,vS,lE,Option.isSome_some];refine gd_ex ⟨trivial,trivial⟩ (gd_ex ⟨trivial,trivial⟩ ?_);have hmul:x0.length*x1.length<=9:=Nat.mul_le_mul b0 b1;have hmul1:1<=x0.length*x1.length:=Nat.mul_le_mul a0 a1;have hmi:((x0.length:Int)*(x1.length:Int))=((x0.length*x1.length:Nat):Int):=by simp
 refine lp_ex (fun x=>(10-x.1).toNat) (fun x=>Sd x.2.2/\0<=x.1/\x.1<=9/\(x.2.1.length:Int)=x.1/\∀y∈x.2.1,-2000<=y/\y<=2000+40*x.1) ?_ ⟨hs1,by omega,by omega,by simp,by simp⟩ (by omega);rintro g ⟨i,out,c,at0,sd0⟩ ⟨i1,i2,i3,i4,i5⟩ ih;simp only at i1 i2 i3 i4 i5;unfold u26L1;dsimp only;refine gd_ex ⟨oo,trivial⟩ ?_;rw[hmi];by_cases cm:i < ((x0.length*x1.length:Nat):Int)
 ·rw[if_pos (decide_eq_true cm)];obtain⟨v,s',e,hs',a,b,_⟩:=nxt_ok (n:=10) i1 (by omega);have b:=b (by omega);simp only[e,vS,lE,Option.isSome_some];refine gd_ex ⟨trivial,oo,trivial⟩ (gd_ex ⟨by omega,trivial⟩ ?_);have hget:∀j:Nat,-2000<=out.getD j 0/\out.getD j 0<=2000+40*i:=fun j=>by
   rw[gq];cases hj:out[j]? with
   | none=>grind
   | some y=>exact i5 y (List.mem_of_getElem? hj)
  -- the last step
  have last:∀(y:Int) (s2:Y52),Sd s2 -> -2000<=y->y<=2040+40*i->∃r,u26J3 i out g (y,s2.1,s2.2.1,s2.2.2)=some r/\Sd r.2/\tabS r.1:=by
   intro y s2 hs2 y1 y2;unfold u26J3;dsimp only;refine gd_ex ⟨⟨by grind,by grind⟩,trivial⟩ (gd_ex ⟨oo,trivial⟩ ?_);refine ih _ ⟨hs2,by omega,by omega,by grind,fun z hz=>?_⟩ (by omega);rcases List.mem_append.1 hz with hz | hz
   ·grind
   ·grind
  have mid:∀(y:Int) (s2:Y52),Sd s2 -> -2000<=y->y<=2040+40*i->∃r,u26J2 i out (x1,s1) g (y,s2.1,s2.2.1,s2.2.2)=some r/\Sd r.2/\tabS r.1:=by
   intro y s2 hs2 y1 y2;unfold u26J2;dsimp only;obtain⟨v2,s3,e3,hs3,a3,b3,_⟩:=nxt_ok (n:=20) hs2 (by omega);have b3:=b3 (by omega);obtain⟨c2,a2,d2⟩:=s2;simp only[e3,vS,Option.isSome_some];by_cases c3:(x1.length:Int)<=i
   ·rw[if_pos (decide_eq_true c3)];have:=hget (i-(x1.length:Int)).toNat;refine gd_ex ⟨oo,oo,by omega,trivial,oo,trivial⟩ ?_;exact last _ s3 hs3 (by omega) (by omega)
   ·grind
  by_cases c4:0<i.tmod (x1.length:Int)
  ·rw[if_pos (decide_eq_true c4)];obtain⟨v2,s3,e3,hs3,a3,b3,_⟩:=nxt_ok (n:=20) hs' (by omega);have b3:=b3 (by omega);simp only[e3,vS,Option.isSome_some];have hi0:i≠0:=fun h=>by subst h; simp at c4
   have:=hget (i-1).toNat;refine gd_ex ⟨oo,oo,by omega,trivial,oo,trivial⟩ ?_;exact mid _ s3 hs3 (by omega) (by omega)
  ·rw[if_neg (by grind)];exact mid _ s' hs' (by omega) (by omega)
 ·rw[if_neg (by grind)];have hge:¬i < ((x0.length*x1.length:Nat):Int):=by simpa using cm
  exact⟨_,rfl,i1,⟨a0,b0⟩,⟨a1,b1⟩,⟨by show 1<=out.length; omega,by show out.length<=9; omega⟩,c0,c1,fun y hy=>by have:=i5 y hy; omega⟩
theorem from_ok{c:List Int}(hw:wf (.sl (.int .u8)) c):∃s,u13 c=some s/\Sd s:=by
 unfold u13;refine lp_ex (fun x=>(65-x.1).toNat) (fun x=>0<=x.1/\x.1<=64/\0<=x.2/\x.2<2147483647) ?_ ⟨by omega,by omega,by omega,by omega⟩ (by omega);rintro g ⟨i,x⟩ ⟨i1,i2,i3,i4⟩ ih;simp only at i1 i2 i3 i4;unfold u13L1;dsimp only;split
 ·rename_i hc;simp only[ba,dq] at hc;have hlt:i.toNat<c.length:=by omega
  have hb:0<=c.getD i.toNat 0/\c.getD i.toNat 0<=255:=by
   rw[gq,List.getElem?_eq_getElem hlt];exact hw.2 _ (List.getElem_mem hlt)
  refine gd_ex ⟨oo,⟨i1,hc.1⟩,trivial,oo,by omega,trivial⟩ (gd_ex ⟨oo,trivial⟩ ?_);exact ih _ ⟨by omega,by omega,Int.tmod_nonneg _ (by omega),Int.tmod_lt_of_pos _ (by omega)⟩ (by omega)
 ·exact⟨_,rfl,⟨⟨by grind,i3,i4⟩,hw.1,fun b hb=>hw.2 b hb⟩⟩
def Sm(t:Y26):Prop:=(t.1.length<=10/\t.2.1.length<=10/\t.2.2.length<=10)/\(∀y∈t.1,-2000000<=y/\y<=2000000)/\(∀y∈t.2.1,-2000000<=y/\y<=2000000)/\∀y∈t.2.2,-2000000<=y/\y<=2000000
theorem set_all{xs:List Int}{k:Nat}{v:Int}(h:∀y∈xs,-2000000<=y/\y<=2000000)(hv : -2000000<=v/\v<=2000000):∀y∈xs.set k v,-2000000<=y/\y<=2000000:=fun y hy=>by
 rcases List.mem_or_eq_of_mem_set hy with hy | rfl
 ·exact h y hy
 ·exact hv
theorem getD_all{xs:List Int}{k:Nat}(h:∀y∈xs,-2000000<=y/\y<=2000000) : -2000000<=xs.getD k 0/\xs.getD k 0<=2000000:=by
 rw[gq];cases hj:xs[k]? with
 | none=>show(-2000000:Int)<=0/\(0:Int)<=2000000; omega
 | some y=>exact h y (List.mem_of_getElem? hj)
theorem any_ok{s:Y52}(h:Sd s):∃r,u12 s=some r/\Sm r.1:=by
 obtain⟨v,s',e,hs',a,b,_⟩:=nxt_ok (n:=100) h (by omega);have b:=b (by omega);obtain⟨⟨⟨ta,tb,tc⟩,s0⟩,e0,hs0,⟨t1,t1'⟩,⟨t2,t2'⟩,⟨t3,t3'⟩,g1,g2,g3⟩:=tab_ok (base:=v-20) hs' (by omega) (by omega);simp only at hs0 t1 t1' t2 t2' t3 t3' g1 g2 g3;have g1:∀y∈ta,-2000000<=y/\y<=2000000:=fun y hy=>by have:=g1 y hy; omega
 have g2:∀y∈tb,-2000000<=y/\y<=2000000:=fun y hy=>by have:=g2 y hy; omega
 have g3':∀y∈tc,-2000000<=y/\y<=2000000:=fun y hy=>by have:=g3 y hy; omega
 obtain⟨k,s1,e1,hs1,k1,k2,_⟩:=nxt_ok (n:=(tc.length:Int)) hs0 (by omega);have k2:=k2 (by omega);obtain⟨m,s2,e2,hs2,m1,m2,_⟩:=nxt_ok (n:=16) hs1 (by omega);unfold u12;simp only[e,vS,Option.isSome_some,e0,lE,e1,e2];refine gd_ex ⟨trivial,oo,trivial,trivial⟩ (gd_ex ⟨trivial,trivial⟩ (gd_ex ⟨trivial,trivial⟩ ?_));by_cases c0:(m==0)=true
 ·rw[if_pos c0];obtain⟨q,s3,e3,hs3,q1,q2,_⟩:=nxt_ok (n:=4) hs2 (by omega);have q2:=q2 (by omega);simp only[e3,vS,Option.isSome_some];refine gd_ex ⟨trivial,⟨by omega,by show q<4; omega⟩,by show q.toNat<4; omega,oo,by omega,trivial⟩ ?_;exact⟨_,rfl,⟨by show ta.length<=10; omega,by show tb.length<=10; omega,by show(tc.set _ _).length<=10; rw[List.length_set]; omega⟩,g1,g2,set_all g3' (getD_all (by decide))⟩
 rw[if_neg c0];by_cases c1:(m==1)=true
 ·rw[if_pos c1];obtain⟨q,s3,e3,hs3,q1,q2,_⟩:=nxt_ok (n:=3) hs2 (by omega);have q2:=q2 (by omega);simp only[e3,vS,Option.isSome_some];refine gd_ex ⟨trivial,⟨by omega,by show q<3; omega⟩,by show q.toNat<3; omega,oo,by show 0<ta.length; omega,trivial⟩ ?_;exact⟨_,rfl,⟨by show(ta.set _ _).length<=10; rw[List.length_set]; omega,by show tb.length<=10; omega,by show tc.length<=10; omega⟩,set_all g1 (getD_all (by decide)),g2,g3'⟩
 rw[if_neg c1];by_cases c2:(m==2)=true
 ·rw[if_pos c2];refine gd_ex ⟨oo,by show 0<tb.length; omega,⟨by rw[List.length_singleton]; omega,by rw[List.length_singleton]; omega⟩,trivial⟩ ?_;refine⟨_,rfl,⟨by show ta.length<=10; omega,by show(tb++[_]).length<=10; rw[List.length_append,List.length_singleton]; omega,by show tc.length<=10; omega⟩,g1,fun y hy=>?_,g3'⟩;have hy:y∈tb++[tb.getD 0 0]:=hy;rcases List.mem_append.1 hy with hy | hy
  ·exact g2 y hy
  ·rw[List.mem_singleton.1 hy]; exact getD_all g2
 rw[if_neg c2];by_cases c3:(m==3)=true
 ·rw[if_pos c3];refine gd_ex ⟨⟨by omega,by omega,by omega⟩,trivial⟩ ?_;exact⟨_,rfl,⟨by show ta.length<=10; omega,by show tb.length<=10; omega,by show(tc.drop 1).length<=10; rw[List.length_drop]; omega⟩,g1,g2,fun y hy=>g3' y (List.mem_of_mem_drop hy)⟩
 rw[if_neg c3];have hJ:∀x:Bool,∃r,u12J1 (m,s2) ((ta,tb,tc),s0) (k,s1) x=some r/\Sm r.1:=fun x=>by
  have hk:=getD_all (k:=k.toNat) g3';have hk3 : -2000000<=tc.getD k.toNat 0-30/\tc.getD k.toNat 0-30<=2000000:=by
   have hlt:k.toNat<tc.length:=by omega
   have hg:tc.getD k.toNat 0∈tc:=by
    rw[gq,List.getElem?_eq_getElem hlt];exact List.getElem_mem hlt
   have:=g3 _ hg;omega
  cases x with
  | true =>
    refine gd_ex ⟨oo,by show k.toNat<tc.length; omega,⟨by show _<=tc.getD k.toNat 0-30; omega,by show tc.getD k.toNat 0-30<=_; omega⟩,oo,by show k.toNat<tc.length; omega,trivial⟩ ?_;exact⟨_,rfl,⟨by show ta.length<=10; omega,by show tb.length<=10; omega,by show(tc.set _ _).length<=10; rw[List.length_set]; omega⟩,g1,g2,set_all g3' hk3⟩
  | false=>exact⟨_,rfl,⟨by show ta.length<=10; omega,by show tb.length<=10; omega,by show tc.length<=10; omega⟩,g1,g2,g3'⟩
 by_cases c4:(m==4)=true
 ·rw[if_pos c4]; exact hJ _
 ·rw[if_neg c4]; exact hJ _
theorem draw_ok{c:List Int}(h:wf (.sl (.int .u8)) c):∃t,u5 c=some t/\Sm t:=by
 obtain⟨s,e,hs⟩:=from_ok h;obtain⟨r,e2,h2⟩:=any_ok hs;unfold u5;rw[e,vS,e2,vS];exact⟨_,gP ⟨rfl,rfl,trivial⟩,h2⟩
end Go.Proofs.YtekfdfcnjlfgiaaDoor
end
section
namespace Go.Proofs.Xd
open Go Go.Proofs.Sv Go.Proofs.Xv Go.Proofs.Xl
theorem getD_mem{α:Type}{l:List α}{i:Nat}{d:α}(h:i<l.length):l.getD i d∈l:=by
 rw[gq,List.getElem?_eq_getElem h];exact List.getElem_mem h
end Go.Proofs.Xd
end
section
namespace Go.Proofs.YtekfdfcnjlfgiaaDoor
open Go Go.Proofs Go.Proofs.Sv Go.Proofs.Xv Go.Proofs.Xl Go.Proofs.Xd
abbrev cma:ByteArray:=ByteArray.mk #[44]
abbrev bar:ByteArray:=ByteArray.mk #[124]
theorem joinS_snoc(l:List ByteArray)(x sep:ByteArray):joinS (l++[x]) sep=if l.length=0 then x else joinS l sep++sep++x:=by
 unfold joinS;rw[List.map_append,List.map_singleton,join_snoc,List.length_map];split
 ·exact ba_bs x
 ·rw[<- ba_app,<- ba_app,ba_bs,ba_bs]
theorem map_range_getD{α β:Type}(f:α->β)(d:α)(xs:List α):((List.range xs.length).map fun i=>f (xs.getD i d))=xs.map f:=by
 refine List.ext_getElem (by simp) fun i h1 h2=>?_;have hi:i<xs.length:=by simpa using h2
 simp[gq,List.getElem?_eq_getElem hi]
theorem numS_size{n:Int}(h:InI n):(numS n).size<=21:=by
 show(⟨(Lib.itoa n).toArray⟩:ByteArray).size<=21;rw[ba_size];exact itoa_len h
theorem r42(n:Int):u42 n=some (numS n):=by
 have e:u51 n 10=some (numS n):=if_pos rfl;unfold u42;rw[e,vS,gP ⟨rfl,trivial⟩];rfl
theorem r43(xs:List ByteArray)(sep:ByteArray)(h1:xs.length<=1000000)(h2:(joinS xs sep).size<=1000000000):u43 xs sep=some (joinS xs sep):=by
 refine if_pos ⟨by omega,?_⟩;have e:(joinS xs sep).size=(Lib.join (xs.map (·.data.toList)) sep.data.toList).length:=by
  show(⟨(Lib.join (xs.map bs) (bs sep)).toArray⟩:ByteArray).size=_;rw[ba_size]; rfl
 omega
def numL(xs:List Int):ByteArray:=joinS (xs.map numS) cma
theorem numL_size{xs:List Int}(hI:∀x∈xs,InI x):(numL xs).size<=xs.length*22:=by
 have:=joinS_len (l:=xs.map numS) (sep:=cma) (M:=22) (fun y hy=>by
  obtain⟨x,hx,rfl⟩:=List.mem_map.1 hy;have:=numS_size (hI x hx);have e:cma.size=1:=rfl;omega)
 rwa [List.length_map] at this
theorem r30(xs:List Int)(hl:xs.length<=1000)(hI:∀x∈xs,InI x):u30 xs cma=some (numL xs):=by
 unfold u30;rw[gP ⟨⟨by omega,rfl,by omega,by omega⟩,trivial⟩,Int.toNat_natCast];have key:=lp_fill (n:=xs.length) (by omega) (fun i (s:List ByteArray)=>((i:Int),s)) (ByteArray.mk #[]) (fun i=>numS (xs.getD i 0)) (J:=u30J0 cma) (F:=u30L1 xs cma) (fun g i s hi hs=>by
  have hsl:s.length=xs.length:=by rw[hs]; exact fillN_len _ _ (by omega)
  refine(if_pos (by simpa using hi)).trans ?_;have e3:((i:Int)).toNat=i:=rfl;rw[e3,r42,vS];refine(gP ⟨oo,trivial⟩).trans ?_;refine(gP ⟨rfl,oo,by omega,trivial⟩).trans ?_;rw[lE];exact gP ⟨oo,trivial⟩) (fun g s _=>if_neg (by simp))
 refine key.trans ?_;rw[map_range_getD numS 0 xs];have hz:=numL_size hI;have e:=r43 (xs.map numS) cma (by rw[List.length_map]; omega) (by unfold numL at hz; omega);show gd _ _=_;rw[e,vS];exact gP ⟨rfl,trivial⟩
theorem joinS_three(a b c sep:ByteArray):joinS [a,b,c] sep=a++sep++b++sep++c:=by
 rw[show [a,b,c]=([a,b]:List ByteArray)++[c] from rfl,joinS_snoc,if_neg (by simp),show [a,b]=([a]:List ByteArray)++[b] from rfl,joinS_snoc,if_neg (by simp),joinS_one]
theorem numL_eq(xs:List Int):numL xs=⟨(listB xs).toArray⟩:=by
 have e:(xs.map numS).map bs=xs.map Lib.itoa:=by
  rw[List.map_map];refine List.map_congr_left fun x _=>?_;show(numS x).data.toList=Lib.itoa x;unfold numS;simp
 show(⟨(Lib.join ((xs.map numS).map bs) (bs cma)).toArray⟩:ByteArray)=_;rw[e];rfl
def tabT(t:Y26):ByteArray:=joinS [numL t.1,numL t.2.1,numL t.2.2] bar
structure TSm(t:Y26):Prop where
 l1:t.1.length<=16
 l2:t.2.1.length<=16
 l3:t.2.2.length<=16
 p1:1<=t.1.length
 p2:1<=t.2.1.length
 p3:1<=t.2.2.length
 g1:∀x∈t.1,InI x
 g2:∀x∈t.2.1,InI x
 g3:∀x∈t.2.2,-2000000<=x/\x<=2000000
theorem t_small{t:Y26}(h:Sm t)(ht:isTable t=true):TSm t:=by
 obtain⟨h1,h2,h3,h4,h5,h6,h7⟩:=table_len ht;obtain⟨_,k1,k2,k3⟩:=h;exact⟨by omega,by omega,h7,h1,h3,h6,fun x hx=>by have:=k1 x hx; exact oo,fun x hx=>by have:=k2 x hx; exact oo,k3⟩
section
variable {t:Y26}
theorem TSm.g3'(h:TSm t):∀x∈t.2.2,InI x:=fun x hx=>by have:=h.g3 x hx; exact oo
theorem tabT_size(h:TSm t):(numL t.1).size<=352/\(numL t.2.1).size<=352/\(numL t.2.2).size<=352/\(tabT t).size<=1100:=by
 have a1:=numL_size h.g1;have a2:=numL_size h.g2;have a3:=numL_size h.g3';have l1:=h.l1;have l2:=h.l2;have l3:=h.l3;have e:bar.size=1:=rfl;refine⟨by omega,by omega,by omega,?_⟩;unfold tabT;rw[joinS_three];simp only[ByteArray.size_append];omega
theorem r16(h:TSm t):u16 t=some (tabT t):=by
 obtain⟨a1,a2,a3,-⟩:=tabT_size h;have l1:=h.l1;have l2:=h.l2;have l3:=h.l3;have e:(ByteArray.mk #[124]).size=1:=rfl;unfold u16;rw[r30 t.1 (by omega) h.g1,r30 t.2.1 (by omega) h.g2,r30 t.2.2 (by omega) h.g3']
 repeat rw[vS]
 refine(gP ⟨rfl,by omega,rfl,by simp only[ByteArray.size_append]; omega,by simp only[ByteArray.size_append]; omega,rfl,by simp only[ByteArray.size_append]; omega,trivial⟩).trans ?_;rw[lE];unfold tabT;rw[joinS_three]
end
theorem r14(c:UInt8)(ls:List (List UInt8))(hx:ls≠[])(hc:∀x∈ls,c ∉ x)(hl:(Lib.join ls [c]).length<=1000000)(hn:ls.length<=1000000):u14 ⟨(Lib.join ls [c]).toArray⟩ ⟨#[c]⟩=some (ls.map fun l=>(⟨l.toArray⟩:ByteArray)):=by
 obtain⟨h1,h2⟩:=splitB_join c ls hx hc;unfold u14;rw[if_pos ⟨by rw[ba_size]; omega,Nat.le_refl 1,by rw[h2,List.length_map,h1],by omega⟩,h2]
theorem dig_ne(c:UInt8)(hc:c.toNat<45)(x:Int):c ∉ Lib.itoa x:=by
 unfold Lib.itoa;split
 ·intro h;rcases List.mem_cons.1 h with h | h
  ·subst h; simp at hc
  ·have:=dec_digits _ c h; omega
 ·intro h;have:=dec_digits _ c h; omega
theorem r29{x:Int}(h:InI x):u29 (numS x)=some (x,true):=by
 have hz:=numS_size h;have e:(numS x).data.toList=Lib.itoa x:=by unfold numS; simp
 unfold u29;rw[if_pos (by omega)];unfold rnV;rw[e,parse_itoa h];exact congrArg (fun b=>some (x,b)) (decide_eq_true rfl)
theorem r15(xs:List Int)(h1:1<=xs.length)(hl:xs.length<=16)(hI:∀x∈xs,InI x):u15 (numL xs) cma=some (xs,true):=by
 have hz:=numL_size hI;have es:u14 (numL xs) cma=some (xs.map numS):=by
  have:=r14 44 (xs.map Lib.itoa) (by cases xs with | nil=>simp at h1 | cons a r=>simp) (fun l hl'=>by
   obtain⟨x,_,rfl⟩:=List.mem_map.1 hl';exact dig_ne 44 (by decide) x) (by
   rw[numL_eq,ba_size] at hz;have:(Lib.join (xs.map Lib.itoa) [44]).length=(listB xs).length:=rfl;omega) (by rw[List.length_map]; omega)
  rw[numL_eq];refine this.trans ?_;rw[List.map_map];rfl
 unfold u15;rw[es,vS];refine(gP ⟨rfl,trivial⟩).trans ?_;rw[lE];have key:=lp_push (n:=xs.length) (by omega) (fun i (s:List Int)=>(s,(i:Int))) (fun i=>xs.getD i 0) [] (J:=u15J0) (F:=u15L1 (xs.map numS)) (fun g i s hi hs=>by
  have hsl:s.length=i:=by rw[hs,pushN_len]; simp
  have e3:((i:Int)).toNat=i:=rfl;have hg:(xs.map numS).getD i (dflt .str)=numS (xs.getD i 0):=by
   rw[gq,gq,List.getElem?_map,List.getElem?_eq_getElem hi]; rfl
  refine(if_pos (by simp; omega)).trans ?_;rw[e3];refine(gP ⟨⟨by omega,by rw[List.length_map]; omega⟩,by rw[List.length_map]; exact hi,trivial⟩).trans ?_;rw[hg,r29 (hI _ (getD_mem hi)),vS];refine(gP ⟨rfl,trivial⟩).trans ?_;rw[lE];refine(if_neg (by simp)).trans ?_;refine(gP ⟨⟨by rw[List.length_singleton]; omega,by rw[List.length_singleton]; omega⟩,trivial⟩).trans ?_;exact gP ⟨oo,trivial⟩) (fun g s _=>if_neg (by simp))
 refine key.trans ?_;show some (pushN [] (fun i=>xs.getD i 0) xs.length,true)=_;unfold pushN;rw[List.nil_append,map_range_getD (fun x=>x) 0 xs,List.map_id']
theorem list_bar(xs:List Int):(124:UInt8) ∉ listB xs:=by
 have hi:∀x:Int,(124:UInt8) ∉ Lib.itoa x:=fun x=>by
  unfold Lib.itoa;split
  ·intro h;rcases List.mem_cons.1 h with h | h
   ·exact absurd h (by decide)
   ·have:=dec_digits _ _ h; simp at this
  ·intro h;have:=dec_digits _ _ h; simp at this
 intro h;unfold listB at h;cases xs with
 | nil=>simp[Lib.join,List.intercalate] at h
 | cons x r =>
   rw[List.map_cons,Lib.join_cons,List.mem_append] at h;rcases h with h | h
   ·exact hi x h
   ·unfold Lib.joinTail at h;obtain⟨l,hl,hm⟩:=List.mem_flatten.1 h;obtain⟨y,hy,rfl⟩:=List.mem_map.1 hl;obtain⟨z,_,rfl⟩:=List.mem_map.1 hy;rcases List.mem_append.1 hm with hm | hm
    ·exact absurd hm (by decide)
    ·exact hi z hm
theorem r6{t:Y26}(h:TSm t)(hw:wf y26 t)(ht:isTable t=true):u6 (tabT t)=some (t,true):=by
 have hz:=(tabT_size h).2.2.2;have es:u14 (tabT t) (ByteArray.mk #[124])=some [numL t.1,numL t.2.1,numL t.2.2]:=by
  have et:tabT t=⟨(Lib.join [listB t.1,listB t.2.1,listB t.2.2] [124]).toArray⟩:=by
   unfold tabT;rw[numL_eq,numL_eq,numL_eq];rfl
  rw[et,ba_size] at hz;have:=r14 124 [listB t.1,listB t.2.1,listB t.2.2] (by simp) (fun l hl=>by
   simp only[List.mem_cons,List.not_mem_nil,or_false] at hl;rcases hl with rfl | rfl | rfl <;> exact list_bar _) (by omega) (by simp)
  rw[et,numL_eq,numL_eq,numL_eq];exact this
 unfold u6;rw[es,vS];refine(gP ⟨rfl,trivial⟩).trans ?_;rw[lE];refine(if_neg (by simp)).trans ?_;have e0:u15 (List.getD [numL t.1,numL t.2.1,numL t.2.2] (Int.toNat (0:Int)) (dflt Ty.str)) (ByteArray.mk #[(44:UInt8)])=some (t.1,true):=r15 t.1 h.p1 h.l1 h.g1;have e1:u15 (List.getD [numL t.1,numL t.2.1,numL t.2.2] (Int.toNat (1:Int)) (dflt Ty.str)) (ByteArray.mk #[(44:UInt8)])=some (t.2.1,true):=r15 t.2.1 h.p2 h.l2 h.g2;have e2:u15 (List.getD [numL t.1,numL t.2.1,numL t.2.2] (Int.toNat (2:Int)) (dflt Ty.str)) (ByteArray.mk #[(44:UInt8)])=some (t.2.2,true):=r15 t.2.2 h.p3 h.l3 h.g3';rw[e0,vS];refine(gP ⟨⟨by omega,by show(0:Int)<3; omega⟩,by show 0<3; omega,rfl,trivial⟩).trans ?_;rw[lE,e1,vS];refine(gP ⟨⟨by omega,by show(1:Int)<3; omega⟩,by show 1<3; omega,rfl,trivial⟩).trans ?_;rw[lE,e2,vS];refine(gP ⟨⟨by omega,by show(2:Int)<3; omega⟩,by show 2<3; omega,rfl,trivial⟩).trans ?_;rw[lE];have e3:u9 (t.1,t.2.1,t.2.2)=some true:=by rw[<- ht]; exact r9 t hw
 rw[e3,vS];refine(gP ⟨fun _=>rfl,trivial⟩).trans ?_;exact if_neg (by simp)
theorem rt_empty:u6 (ByteArray.mk #[])=some (([],[],[]),false):=by
 have es:u14 (ByteArray.mk #[]) (ByteArray.mk #[124])=some [ByteArray.mk #[]]:=r14 124 [[]] (by simp) (by simp) (by simp[Lib.join_one]) (by simp);unfold u6;rw[es,vS];refine(gP ⟨rfl,trivial⟩).trans ?_;rw[lE];exact if_pos (by simp)
theorem r24(x:Int)(h : -2000000<=x/\x<=2000000):u24 x 1000 0=some x:=by
 have e1:(x*1000).tmod 1000=0:=Int.mul_tmod_left x 1000;have e2:(x*1000).tdiv 1000=x:=Int.mul_tdiv_cancel x (by decide);have ed:u36 (x*1000) 1000 0=some x:=by
  unfold u36;rw[e1,e2];refine(gP ⟨by decide,by decide,trivial⟩).trans ?_;refine(if_neg (by simp)).trans ?_;exact if_neg (by simp)
 unfold u24;rw[ed,vS];refine(gP ⟨oo,rfl,trivial⟩).trans ?_;rw[lE]
theorem r10{t:Y26}(h:TSm t)(hw:wf y26 t)(ht:isTable t=true):u10 t 1000 0=some (t,0):=by
 have l1:=h.l1;have l2:=h.l2;have l3:=h.l3;have ec:∀xs:List Int,xs.length<=16->u23 xs=some xs:=fun xs hx=>gP ⟨oo,trivial⟩;have ef:u21 1000=some true:=by unfold u21; exact(gP ⟨rfl,trivial⟩).trans rfl
 have em:u22 0=some true:=rfl;have e3:u9 (t.1,t.2.1,t.2.2)=some true:=by rw[<- ht]; exact r9 t hw
 unfold u10;rw[r9 t hw,vS,ht];refine(gP ⟨rfl,trivial⟩).trans ?_;refine(if_neg (by simp)).trans ?_;rw[ef,em,vS];refine(gP ⟨rfl,fun _=>rfl,trivial⟩).trans ?_;refine(if_neg (by simp)).trans ?_;rw[ec _ l1,ec _ l2,vS,vS,Int.toNat_natCast];refine(gP ⟨rfl,rfl,⟨by omega,rfl,by omega,by omega⟩,trivial⟩).trans ?_;rw[lE];have key:=lp_fill (n:=t.2.2.length) (by omega) (fun i (s:List Int)=>((i:Int),s)) 0 (fun i=>t.2.2.getD i 0) (J:=u10J0 t.1 t.2.1) (F:=u10L1 t 1000 0 t.1 t.2.1) (fun g i s hi hs=>by
  have hsl:s.length=t.2.2.length:=by rw[hs]; exact fillN_len _ _ (by omega)
  have e4:((i:Int)).toNat=i:=rfl;refine(if_pos (by simpa using hi)).trans ?_;rw[e4,r24 _ (h.g3 _ (getD_mem hi)),vS];refine(gP ⟨oo,trivial⟩).trans ?_;refine(gP ⟨rfl,oo,by omega,trivial⟩).trans ?_;rw[lE];exact gP ⟨oo,trivial⟩) (fun g s _=>if_neg (by simp))
 refine key.trans ?_;rw[map_range_getD (fun x=>x) 0 t.2.2,List.map_id'];show gd ((u9 (t.1,t.2.1,t.2.2)).isSome=true/\True) (if(!vl (u9 (t.1,t.2.1,t.2.2)))=true then some (([],[],[]),(2:Int)) else some ((t.1,t.2.1,t.2.2),(0:Int)))=_;rw[e3,vS];refine(gP ⟨rfl,trivial⟩).trans ?_;exact if_neg (by simp)
theorem r25(xs:List Int)(h:xs.length<=1000):u25 xs xs=some true:=by
 unfold u25;refine(if_neg (by simp)).trans ?_;have key:=lp_all (n:=xs.length) (by omega) (fun _=>false) (some false) (e:=some true) (F:=u25L1 xs xs) (fun g i hi=>by
  have e3:((i:Int)).toNat=i:=rfl;refine(if_pos (by simpa using hi)).trans ?_;rw[e3];refine(gP ⟨oo,oo,trivial⟩).trans ?_;refine(if_neg (by simp)).trans ?_;exact gP ⟨oo,trivial⟩) (fun g=>aE)
 refine key.trans ?_;simp
theorem r11{t:Y26}(h:TSm t):u11 t t=some true:=by
 have l1:=h.l1;have l2:=h.l2;have l3:=h.l3;unfold u11;rw[r25 _ (by omega),r25 _ (by omega),r25 _ (by omega)]
 repeat rw[vS]
 exact gP ⟨rfl,fun _=>rfl,fun _=>rfl,trivial⟩
theorem lo_hi{x:Int}(h : -2000000<=x/\x<=2000000):lo .i64<=x/\x<=hi .i64:=⟨by show(-9223372036854775808:Int)<=x; omega,by show x<=(9223372036854775807:Int); omega⟩
theorem sm_wf{t:Y26}(h:Sm t):wf y26 t:=by
 obtain⟨⟨h1,h2,h3⟩,k1,k2,k3⟩:=h;exact⟨⟨by omega,fun x hx=>lo_hi (k1 x hx)⟩,⟨by omega,fun x hx=>lo_hi (k2 x hx)⟩,by omega,fun x hx=>lo_hi (k3 x hx)⟩
theorem r3(c:List Int)(hc:wf (.sl (.int .u8)) c):u3 c=some true:=by
 have eb:u4 c=some (decide (4096 < (c.length:Int))):=rfl;unfold u3;rw[eb,vS];refine(gP ⟨rfl,trivial⟩).trans ?_;by_cases hb:decide (4096 < (c.length:Int))=true
 ·exact if_pos hb
 refine(if_neg hb).trans ?_;obtain⟨t,et,hs⟩:=draw_ok hc;have hw:=sm_wf hs;rw[et,vS];refine(gP ⟨rfl,trivial⟩).trans ?_;rw[lE];cases ht:isTable t with
 | false =>
   have e1:u7 t=some (ByteArray.mk #[]):=by
    unfold u7;rw[r9 t hw,vS,ht];exact(gP ⟨rfl,trivial⟩).trans (if_pos rfl)
   rw[e1,vS,rt_empty,vS];refine(gP ⟨rfl,rfl,trivial⟩).trans ?_;rw[lE,r8 t hw,vS,ht];refine(gP ⟨rfl,trivial⟩).trans ?_;refine(if_pos rfl).trans ?_;rw[r9 t hw,vS,ht];exact gP ⟨fun _=>rfl,trivial⟩
 | true =>
   have h:=t_small hs ht;have e1:u7 t=some (tabT t):=by
    unfold u7;rw[r9 t hw,vS,ht];refine(gP ⟨rfl,trivial⟩).trans ((if_neg (by simp)).trans ?_);rw[r16 h,vS];exact gP ⟨rfl,trivial⟩
   rw[e1,vS,r6 h hw ht,vS];refine(gP ⟨rfl,rfl,trivial⟩).trans ?_;rw[lE,r8 t hw,vS,ht];refine(gP ⟨rfl,trivial⟩).trans ?_;refine(if_neg (by simp)).trans ?_;rw[r10 h hw ht,vS];refine(gP ⟨rfl,trivial⟩).trans ?_;rw[lE,r11 h,vS];exact gP ⟨fun _=>rfl,fun _=>rfl,trivial⟩
end Go.Proofs.YtekfdfcnjlfgiaaDoor
end
