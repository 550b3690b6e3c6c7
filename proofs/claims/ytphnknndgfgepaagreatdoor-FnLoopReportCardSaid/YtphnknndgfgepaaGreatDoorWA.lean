/- Plain words on names: no program in sight. -/
import Derived.Test.YtphnknndgfgepaaGreatDoorXA
import Derived.Lib.SlTrimSet
import Derived.Lib.Bytealg
import Derived.Test.YtphnknndgfgepaaGreatDoorF77d
import Derived.Test.YtphnknndgfgepaaGreatDoorXF
import Derived.Test.YtphnknndgfgepaaGreatDoorG77
section
namespace Go.Proofs.Sv
open Go
def p0K(c:Int):Bool:=decide (c≥97)&&decide (c<=122)
def z0F(c:Int):Bool:=decide (c≥48)&&decide (c<=57)
def chB(c:Int)(i:Nat):Bool:=p0K c||(z0F c&&decide (0<i))
def p0I(s:ByteArray):Nat->Bool
 | 0=>true
 | k+1=>p0I s k&&chB (a0r s k) k
def nmB(s:ByteArray):Bool:=p0I s s.size&&decide ((s.size:Int)≥1)&&decide ((s.size:Int)<=8)
theorem l0i(s:ByteArray)(k:Nat):∀j,k<=j->p0I s j=true->p0I s k=true:=by
 intro j hj h
 induction j with
 | zero=>have:k=0:=by omega
         subst this; rfl
 | succ j ih =>
   by_cases hk:k=j+1
   ·subst hk; exact h
   ·simp only[p0I,ba] at h;exact ih (by omega) h.1
theorem r0U(s:ByteArray)(k:Nat)(hk:k<s.size)(h:chB (a0r s k) k=false):nmB s=false:=by
 cases hn:nmB s with
 | false=>rfl
 | true =>
   simp only[nmB,ba] at hn;have:=l0i s (k+1) s.size hk hn.1.1;simp only[p0I,ba,h] at this;exact absurd this.2 (by simp)
def low26:List UInt8:=[97,98,99,100,101,102,103,104,105,106,107,108,109,110,111,112,113,114,115,116,117,118,119,120,121,122]
def low36:List UInt8:=[97,98,99,100,101,102,103,104,105,106,107,108,109,110,111,112,113,114,115,116,117,118,119,120,121,122,48,49,50,51,52,53,54,55,56,57]
theorem s0f:∀n:Fin 256,low26.contains (UInt8.ofNat n.val)=p0K (n.val:Int):=by decide +kernel
theorem s0d:∀n:Fin 256,low36.contains (UInt8.ofNat n.val)=(p0K (n.val:Int)||z0F (n.val:Int)):=by decide +kernel
theorem s0e(b:UInt8):low26.contains b=p0K (b.toNat:Int):=by
 have:=s0f ⟨b.toNat,b.toNat_lt⟩;simpa using this
theorem l0p(b:UInt8):low36.contains b=(p0K (b.toNat:Int)||z0F (b.toNat:Int)):=by
 have:=s0d ⟨b.toNat,b.toNat_lt⟩;simpa using this
theorem f0n(c:UInt8):∀l:List UInt8,decide (0<=Lib.indexByte l c)=l.contains c
 | []=>by simp[Lib.indexByte]
 | b :: l=>by
   have ih:=f0n c l;have hg:=Lib.indexByte_ge l c;unfold Lib.indexByte;by_cases hb:b=c
   ·subst hb; simp
   ·have hb':¬c=b:=fun h=>hb h.symm;have e1:(b==c)=false:=by simpa using hb
    rw[e1,List.contains_cons,show(c==b)=false by simpa using hb',<- ih];by_cases h1:Lib.indexByte l c = -1
    ·simp[h1]
    ·have:(Lib.indexByte l c == -1)=false:=by simpa using h1
     rw[this];simp only[Bool.false_eq_true,if_false,Bool.false_or];rw[Bool.eq_iff_iff]; simp only[dq]; omega
theorem f0q{α:Type}(p:α->Bool):∀l:List α,l.dropWhile p=[]↔∀x∈l,p x=true
 | []=>by simp
 | x :: r=>by
   rw[List.dropWhile_cons];by_cases h:p x=true
   ·simp[h,f0q p r]
   ·simp[h]
theorem f0e{α:Type}(p:α->Bool)(x:α):∀l:List α,x∈l.takeWhile p->p x=true
 | [],h=>by cases h
 | y :: r,h=>by
   rw[List.takeWhile_cons] at h;by_cases hy:p y=true
   ·rw[if_pos hy] at h;rcases List.mem_cons.1 h with rfl | h
    ·exact hy
    ·exact f0e p x r h
   ·rw[if_neg hy] at h; cases h
theorem r0k(l cs:List UInt8):Lib.trimS l cs=[]↔∀b∈l,cs.contains b=true:=by
 unfold Lib.trimS Lib.trimLeftS Lib.trimRightS;rw[f0q];constructor
 ·intro h b hb;have e:l=(l.reverse.dropWhile (cs.contains ·)).reverse++(l.reverse.takeWhile (cs.contains ·)).reverse:=by
   rw[<- List.reverse_append,List.takeWhile_append_dropWhile,List.reverse_reverse]
  rw[e] at hb;rcases List.mem_append.1 hb with hb | hb
  ·exact h b hb
  ·have:=List.mem_reverse.1 hb;exact f0e (cs.contains ·) b _ this
 ·intro h b hb;exact h b (by have:=(List.dropWhile_sublist _).mem (List.mem_reverse.1 hb); exact List.mem_reverse.1 this)
theorem o0p(s:ByteArray)(h0:p0K (a0r s 0)=true):∀k,k<=s.size->(p0I s k=true↔∀i,i<k->(p0K (a0r s i)||z0F (a0r s i))=true)
 | 0,_=>by simp[p0I]
 | k+1,hk=>by
   have ih:=o0p s h0 k (by omega);simp only[p0I,ba,ih];constructor
   ·rintro⟨h1,h2⟩ i hi;by_cases hik:i=k
    ·subst hik;unfold chB at h2;cases hl:p0K (a0r s i) with
     | true=>simp
     | false=>rw[hl] at h2; simp only[Bool.false_or,ba] at h2; simp[h2.1]
    ·exact h1 i (by omega)
   ·intro h;refine⟨fun i hi=>h i (by omega),?_⟩;have:=h k (by omega);unfold chB;by_cases hk0:k=0
    ·subst hk0; simp[h0]
    ·have hp:decide (0<k)=true:=by simp; omega
     rw[hp]; simpa using this
theorem t0X(s:ByteArray):Lib.trimS s.data.toList low36=[]↔∀i,i<s.size->(p0K (a0r s i)||z0F (a0r s i))=true:=by
 rw[r0k];have hl:s.data.toList.length=s.size:=by simp
 constructor
 ·intro h i hi;have hi':i<s.data.toList.length:=by rw[hl]; exact hi
  have:=h s.data.toList[i] (List.getElem_mem hi');rw[l0p] at this;unfold a0r;rw[gq,List.getElem?_eq_getElem hi'];exact this
 ·intro h b hb;obtain⟨i,hi,rfl⟩:=List.getElem_of_mem hb;have:=h i (by rw[<- hl]; exact hi);unfold a0r at this;rw[gq,List.getElem?_eq_getElem hi] at this;rw[l0p]; exact this
theorem u0R(s:ByteArray)(h1:1<=s.size)(h8:s.size<=8):nmB s=((Lib.trimS s.data.toList low36==[])&&decide (0<=Lib.indexByte low26 (a0r s 0).toNat.toUInt8)):=by
 have e0:(a0r s 0).toNat.toUInt8=s.data.toList.getD 0 0:=by unfold a0r; simp
 rw[e0,f0n,s0e];show nmB s=(_&&p0K (a0r s 0));have g1:decide ((s.size:Int)≥1)=true:=by simp; omega
 have g2:decide ((s.size:Int)<=8)=true:=by simp; omega
 unfold nmB;rw[g1,g2,Bool.and_true,Bool.and_true];cases h0:p0K (a0r s 0) with
 | false =>
   rw[Bool.and_false];cases hn:p0I s s.size with
   | false=>rfl
   | true =>
     have:=l0i s 1 s.size h1 hn;simp[p0I,chB,h0] at this
 | true =>
   rw[Bool.and_true,Bool.eq_iff_iff,o0p s h0 s.size (Nat.le_refl _),beq_iff_eq,t0X]
end Go.Proofs.Sv
end
section
namespace Go.Proofs.YtphnknndgfgepaaGreatDoor
open Go Go.Proofs Go.Proofs.Sv Go.Proofs.Xv Go.Proofs.Xl Go.Proofs.Xd
theorem a0b{ρ:Type}{V:Prop}[Decidable V]{e:Option ρ}{P:ρ->Prop}(hV:V)(h:∃r,e=some r/\P r):∃r,gd V e=some r/\P r:=by rw[gP hV]; exact h
theorem e0g{σ ρ:Type}{F:(σ->Option ρ)->σ->Option ρ}(μ:σ->Nat)(I:σ->Prop){P:ρ->Prop}(hF:∀g s,I s->(∀s',I s'->μ s'<μ s->∃r,g s'=some r/\P r)->∃r,F g s=some r/\P r){s:σ}(hI:I s)(hμ:μ s<=18446744073709551616):∃r,lp F s=some r/\P r:=by
 have key:∀n s,I s->μ s<n->∃r,itF F n s=some r/\P r:=by
  intro n
  induction n with
  | zero=>intro s _ h; omega
  | succ n ih =>
    intro s hI h;exact hF (itF F n) s hI fun s' hI' h'=>ih s' hI' (by omega)
 exact key big s hI (by unfold big; omega)
def Sd(s:a0u):Prop:=sd s/\s.1.length<=9223372036854775807/\∀b∈s.1,0<=b/\b<=255
theorem Sd.sd{s:a0u}(h:Sd s):YtphnknndgfgepaaGreatDoor.sd s:=h.1
theorem a0K{s:a0u}{n:Int}(h:Sd s)(hn:n<=9223372036854775807):∃v s',u88 s n=some (v,s')/\Sd s'/\0<=v/\(1<=n->v<n)/\(n<=1->v=0):=by
 obtain⟨⟨h1,h2,h3⟩,h4,h5⟩:=h;have hM:∀x:Int,0<=x->0<=x.tmod 2147483647/\x.tmod 2147483647<2147483647:=fun x hx=>⟨Int.tmod_nonneg _ hx,Int.tmod_lt_of_pos x (by omega)⟩;unfold u88;by_cases c1:n<=1
 ·rw[if_pos (decide_eq_true c1)];exact⟨0,_,rfl,⟨⟨h1,h2,h3⟩,h4,h5⟩,by omega,by omega,fun _=>rfl⟩
 ·rw[if_neg (by simpa using c1)];by_cases c2:s.2.1 < (s.1.length:Int)
  ·rw[if_pos (decide_eq_true c2)];have hb:0<=s.1.getD s.2.1.toNat 0/\s.1.getD s.2.1.toNat 0<=255:=by
    have hlt:s.2.1.toNat<s.1.length:=by omega
    rw[gq,List.getElem?_eq_getElem hlt];exact h5 _ (List.getElem_mem hlt)
   rw[gP ⟨⟨h1,c2⟩,trivial,trivial⟩,gP ⟨oo,trivial⟩];by_cases c3:n<=256
   ·rw[if_pos (decide_eq_true c3),gP ⟨by omega,trivial⟩];exact⟨_,_,rfl,⟨⟨by simp only; omega,h2,h3⟩,h4,h5⟩,Int.tmod_nonneg _ hb.1,fun _=>Int.tmod_lt_of_pos _ (by omega),fun h=>(c1 h).elim⟩
   ·rw[if_neg (by simpa using c3),gP ⟨oo,oo,oo,by omega,trivial⟩,lE,gP ⟨by omega,trivial⟩];have hx:=hM (s.2.2*48271+s.1.getD s.2.1.toNat 0+1) (by omega);exact⟨_,_,rfl,⟨⟨by simp only; omega,hx.1,hx.2⟩,h4,h5⟩,Int.tmod_nonneg _ hx.1,fun _=>Int.tmod_lt_of_pos _ (by omega),fun h=>(c1 h).elim⟩
  ·rw[if_neg (by simpa using c2),gP ⟨oo,oo,by omega,trivial⟩,gP ⟨by omega,by omega,trivial⟩];have hx:=hM (s.2.2*48271+11) (by omega);exact⟨_,_,rfl,⟨⟨h1,hx.1,hx.2⟩,h4,h5⟩,Int.tmod_nonneg _ (Int.tdiv_nonneg hx.1 (by omega)),fun _=>Int.tmod_lt_of_pos _ (by omega),fun h=>(c1 h).elim⟩
theorem t0e{s:a0u}{n:Int}(h:Sd s)(h1:1<=n)(h2:n<=1000):∃r,y0J s n=some r/\Sd r.2/\1<=r.1.length/\r.1.length<=3:=by
 obtain⟨v0,s0,e0,hs0,a0,b0,_⟩:=a0K (n:=n) h (by omega);obtain⟨v1,s1,e1,hs1,a1,b1,_⟩:=a0K (n:=3) hs0 (by omega);have b0:=b0 h1;have b1:=b1 (by omega);unfold y0J;simp only[e0,e1,vS,lE,Option.isSome_some];refine a0b ⟨trivial,trivial⟩ (a0b ⟨trivial,oo,trivial⟩ ?_);refine e0g (fun x=>x.2.1.toNat) (fun x=>Sd (x.2.2.1,x.2.2.2.1,x.2.2.2.2.1)/\0<=x.1/\x.1+1001*x.2.1<=5000/\0<=x.2.1/\1<=(x.2.2.2.2.2.length:Int)+x.2.1/\(x.2.2.2.2.2.length:Int)+x.2.1<=3) ?_ ⟨hs1,by simp only; omega,by simp only; omega,by simp only; omega,by simp only[List.length_nil]; omega,by simp only[List.length_nil]; omega⟩ (by simp only; omega);rintro g ⟨x,m,c,at0,sd0,out⟩ ⟨i1,i2,i3,i4,i5,i6⟩ ih;simp only at i1 i2 i3 i4 i5 i6;unfold w0a;dsimp only;by_cases cm:0<m
 ·obtain⟨v,s',e,hs',a,b,_⟩:=a0K (n:=n) i1 (by omega);have b:=b h1;simp only[e,vS,lE,Option.isSome_some];rw[if_pos (decide_eq_true cm)];refine a0b ⟨⟨by simp; omega,by simp; omega⟩,trivial⟩ (a0b ⟨oo,trivial,oo,trivial⟩ (a0b ⟨oo,trivial⟩ ?_));exact ih _ ⟨hs',by simp only; omega,by simp only; omega,by simp only; omega,by simp; omega,by simp; omega⟩ (by simp only; omega)
 ·rw[if_neg (by simpa using cm)];exact⟨_,rfl,i1,by simp only; omega,by simp only; omega⟩
def y0R(t:d0O):Prop:=t.1.length<=3/\t.2.1.length<=3/\t.2.2.length<=9
theorem x0L{s:a0u}{base:Int}(h:Sd s)(h1 : -1000<=base)(h2:base<=1000):∃r,w0g s base=some r/\Sd r.2/\y0R r.1:=by
 obtain⟨⟨x0,s0⟩,e0,hs0,a0,b0⟩:=t0e (n:=60) h (by omega) (by omega);obtain⟨⟨x1,s1⟩,e1,hs1,a1,b1⟩:=t0e (n:=40) hs0 (by omega) (by omega);simp only at hs0 a0 b0 hs1 a1 b1 e0 e1;unfold w0g;simp only[e0,e1,vS,lE,Option.isSome_some];refine a0b ⟨trivial,trivial⟩ (a0b ⟨trivial,trivial⟩ ?_);have hmul:x0.length*x1.length<=9:=Nat.mul_le_mul b0 b1;have hmi:((x0.length:Int)*(x1.length:Int))=((x0.length*x1.length:Nat):Int):=by simp
 refine e0g (fun x=>(10-x.1).toNat) (fun x=>Sd x.2.2/\0<=x.1/\x.1<=9/\(x.2.1.length:Int)=x.1/\∀y∈x.2.1,-2000<=y/\y<=2000+40*x.1) ?_ ⟨hs1,by simp only; omega,by simp only; omega,by simp,by simp⟩ (by simp only; omega);rintro g ⟨i,out,c,at0,sd0⟩ ⟨i1,i2,i3,i4,i5⟩ ih;simp only at i1 i2 i3 i4 i5;unfold w0e;dsimp only;refine a0b ⟨⟨by rw[hmi]; omega,by rw[hmi]; omega⟩,trivial⟩ ?_;rw[hmi];by_cases cm:i < ((x0.length*x1.length:Nat):Int)
 ·rw[if_pos (decide_eq_true cm)];obtain⟨v,s',e,hs',a,b,_⟩:=a0K (n:=10) i1 (by omega);have b:=b (by omega);simp only[e,vS,lE,Option.isSome_some];refine a0b ⟨trivial,oo,trivial⟩ (a0b ⟨by omega,trivial⟩ ?_);have hget:∀j:Nat,-2000<=out.getD j 0/\out.getD j 0<=2000+40*i:=fun j=>by
   rw[gq];cases hj:out[j]? with
   | none=>simp; omega
   | some y=>exact i5 y (List.mem_of_getElem? hj)
  -- the last step
  have last:∀(y:Int) (s2:a0u),Sd s2 -> -2000<=y->y<=2040+40*i->∃r,k0m i out g (y,s2.1,s2.2.1,s2.2.2)=some r/\Sd r.2/\y0R r.1:=by
   intro y s2 hs2 y1 y2;unfold k0m;dsimp only;refine a0b ⟨⟨by simp; omega,by simp; omega⟩,trivial⟩ (a0b ⟨oo,trivial⟩ ?_);refine ih _ ⟨hs2,by simp only; omega,by simp only; omega,by simp; omega,fun z hz=>?_⟩ (by simp only; omega);rcases List.mem_append.1 hz with hz | hz
   ·have:=i5 z hz; simp only; omega
   ·rw[List.mem_singleton.1 hz]; simp only; omega
  have mid:∀(y:Int) (s2:a0u),Sd s2 -> -2000<=y->y<=2040+40*i->∃r,k0n i out (x1,s1) g (y,s2.1,s2.2.1,s2.2.2)=some r/\Sd r.2/\y0R r.1:=by
   intro y s2 hs2 y1 y2;unfold k0n;dsimp only;obtain⟨v2,s3,e3,hs3,a3,b3,_⟩:=a0K (n:=20) hs2 (by omega);have b3:=b3 (by omega);obtain⟨c2,a2,d2⟩:=s2;simp only[e3,vS,lE,Option.isSome_some];by_cases c3:(x1.length:Int)<=i
   ·rw[if_pos (decide_eq_true c3)];have:=hget (i-(x1.length:Int)).toNat;refine a0b ⟨oo,oo,by omega,trivial,oo,trivial⟩ ?_;exact last _ s3 hs3 (by omega) (by omega)
   ·rw[if_neg (by simpa using c3)];exact last _ (c2,a2,d2) hs2 y1 y2
  by_cases c4:0<i.tmod (x1.length:Int)
  ·rw[if_pos (decide_eq_true c4)];obtain⟨v2,s3,e3,hs3,a3,b3,_⟩:=a0K (n:=20) hs' (by omega);have b3:=b3 (by omega);simp only[e3,vS,lE,Option.isSome_some];have hi0:i≠0:=fun h=>by subst h; simp at c4
   have:=hget (i-1).toNat;refine a0b ⟨oo,oo,by omega,trivial,oo,trivial⟩ ?_;exact mid _ s3 hs3 (by omega) (by omega)
  ·rw[if_neg (by simpa using c4)];exact mid _ s' hs' (by omega) (by omega)
 ·rw[if_neg (by simpa using cm)];refine⟨_,rfl,i1,by simp only; omega,by simp only; omega,by simp only; omega⟩
theorem m0r{s:a0u}{base:Int}(h:Sd s)(h1 : -1000<=base)(h2:base<=1000):∃r,t0Q s base=some r/\Sd r.2/\r.1.length=2/\∀t∈r.1,y0R t:=by
 obtain⟨⟨x0,s0⟩,e0,hs0,a0⟩:=x0L h h1 h2;obtain⟨⟨x1,s1⟩,e1,hs1,a1⟩:=x0L hs0 h1 h2;simp only at hs0 a0 hs1 a1 e0 e1;unfold t0Q;simp only[e0,e1,vS,lE,Option.isSome_some];refine a0b ⟨trivial,trivial⟩ (a0b ⟨trivial,trivial⟩ ⟨_,rfl,hs1,rfl,fun t ht=>?_⟩);simp only[List.mem_cons,List.not_mem_nil,or_false] at ht;rcases ht with rfl | rfl
 ·exact a0
 ·exact a1
def A0C(a:c0f):Prop:=a.2.2.2.2.1.length<=2/\(∀t∈a.2.2.2.2.1,y0R t)/\a.2.2.2.2.2.length<=2/\∀t∈a.2.2.2.2.2,y0R t
theorem l0S{s:a0u}{k x y z:Int}(h:Sd s):∃r,g0z s k x y z=some r/\Sd r.2/\A0C r.1:=by
 unfold g0z;by_cases c:4<=k
 ·rw[if_pos (decide_eq_true c)];obtain⟨v,s',e,hs',a,b,_⟩:=a0K (n:=10) h (by omega);have b:=b (by omega);obtain⟨⟨t,s2⟩,e2,hs2,a2,b2⟩:=m0r (base:=5-v) hs' (by omega) (by omega);simp only at hs2 a2 b2 e2;simp only[e,e2,vS,lE,Option.isSome_some];refine a0b ⟨trivial,oo,trivial,trivial⟩ ⟨_,rfl,hs2,?_⟩;exact⟨by simp only; omega,b2,by simp,by simp⟩
 ·rw[if_neg (by simpa using c)];obtain⟨v,s',e,hs',a,b,_⟩:=a0K (n:=20) h (by omega);have b:=b (by omega);obtain⟨⟨t,s2⟩,e2,hs2,a2,b2⟩:=m0r (base:=5+v) hs' (by omega) (by omega);obtain⟨⟨t3,s3⟩,e3,hs3,a3,b3⟩:=m0r (base:=10) hs2 (by omega) (by omega);simp only at hs2 a2 b2 e2 hs3 a3 b3 e3;simp only[e,e2,e3,vS,lE,Option.isSome_some];refine a0b ⟨trivial,oo,trivial,trivial⟩ (a0b ⟨trivial,trivial⟩ ⟨_,rfl,hs3,?_⟩);exact⟨by simp only; omega,b2,by simp only; omega,b3⟩
theorem x0M{α:Type}{f:α->Nat}{k:Nat}:∀{xs:List α},(∀x∈xs,f x<=k)->(xs.map f).sum<=xs.length*k
 | [],_=>by simp
 | x :: r,h=>by
   have:=x0M (xs:=r) (fun y hy=>h y (by simp[hy]));have:=h x (by simp);simp only[List.map_cons,List.sum_cons,List.length_cons,Nat.add_mul];omega
theorem c0K{e:Ty}{xs:List (den e)}{m k:Nat}(hm:xs.length<=m)(h:∀x∈xs,cnt e x<=k):cnt (.sl e) xs<=m+m*k:=by
 rw[d0b];have:=x0M h;have:=Nat.mul_le_mul_right k hm;omega
theorem b0c{α ρ:Type}{x:α}{f:α->Option ρ}{P:ρ->Prop}(h:∃r,f x=some r/\P r):∃r,lt x f=some r/\P r:=h
theorem r0n{t:d0O}(h:y0R t):cnt y140 t<=15:=by
 obtain⟨h1,h2,h3⟩:=h;show cnt (.pr (.sl (.int .i64)) (.pr (.sl (.int .i64)) (.sl (.int .i64)))) t<=15;rw[a0M,a0M,b0T,b0T,b0T];omega
theorem t0h{a:c0f}(h:A0C a):cnt y143 a<=64:=by
 obtain⟨h1,h2,h3,h4⟩:=h;show cnt (.pr (.int .i64) (.pr (.int .i64) (.pr (.int .i64) (.pr (.int .i64) (.pr (.sl y140) (.sl y140)))))) a<=64;have e1:=c0K (e:=y140) h1 (fun t ht=>r0n (h2 t ht));have e2:=c0K (e:=y140) h3 (fun t ht=>r0n (h4 t ht));simp only[a0M,d0m];omega
theorem u0h{c:a0y}{m p:Nat}(hm:m<=3)(hp:p<m)(hc:c.2.2.2.2.1.length=2 ^ m):∃r,B0J c (p:Int)=some r/\True:=by
 have key:∀m,m<4->∀p,p<m->∀j,j<8->j<2 ^ m->(j &&& 2 ^ p)=0->j+2 ^ p<2 ^ m:=by decide
 have hB:((1:Int)*(2:den i64) ^ ((p:Int)).toNat)=((2 ^ p:Nat):Int):=by
  show(1:Int)*(2:Int) ^ p=_;simp
 have h8:2 ^ p<=4:=(Nat.pow_le_pow_right (by omega) (by omega):2 ^ p<=2 ^ 2);have hm8:2 ^ m<=8:=(Nat.pow_le_pow_right (by omega) hm:2 ^ m<=2 ^ 3);have key:=key m (by omega) p hp;generalize 2 ^ p=P at key hB h8;generalize 2 ^ m=M at key hc hm8;unfold B0J;refine a0b ⟨oo,⟨oo,?_⟩,trivial⟩ ?_
 ·have e:((1:Int)*(2:Int) ^ ((p:Int)).toNat)=(P:Int):=hB;rw[e];exact oo
 refine e0g (fun x=>(9-x.2.2).toNat) (fun x=>∃j:Nat,x.2.2=(j:Int)/\j<=8) ?_ ⟨0,rfl,by omega⟩ (by simp only; omega);rintro g ⟨a,b,i⟩ ⟨j,hi,hj⟩ ih;simp only at hi;subst hi;unfold w0p;dsimp only;rw[hc];by_cases c1:(j:Int) < (M:Int)
 ·rw[if_pos (decide_eq_true c1)];generalize hBB:((1:Int)*(2:den i64) ^ ((p:Int)).toNat)=B;rw[hB] at hBB;subst hBB;refine a0b ⟨oo,trivial⟩ ?_;have nx:∀a b,∃r,k0r (j:Int) g (a,b)=some r/\True:=fun a b=>by
   unfold k0r;dsimp only;exact a0b ⟨oo,trivial⟩ (ih _ ⟨j+1,by simp only; omega,by omega⟩ (by simp only; omega))
  by_cases c2:(j &&& P)=0
  ·have:=key j (by omega) (by omega) c2;rw[if_neg (by simp only[Int.toNat_natCast,c2]; simp)];refine a0b ⟨fun _=>oo,fun _=>oo,fun _=>oo,trivial⟩ (a0b ⟨fun _=>oo,fun _=>oo,fun _=>oo,trivial⟩ ?_);exact nx _ _
  ·rw[if_pos (by simp only[Int.toNat_natCast]; simp only[bne_iff_ne,ne_eq]; omega)];exact nx _ _
 ·rw[if_neg (by simpa using c1)];unfold q0O;dsimp only
  repeat' split
  all_goals exact⟨_,rfl,trivial⟩
def s0U(c:a0y):Prop:=cnt y163 c<=300
theorem u0T:∀k:Nat,(([ByteArray.mk #[97],ByteArray.mk #[98],ByteArray.mk #[99],ByteArray.mk #[100]]:List ByteArray).getD k (a0a Ty.str)).size<=1
 | 0 | 1 | 2 | 3=>by decide
 | n+4=>by
   simp[a0a];exact Nat.zero_le _
theorem v0z{s:a0u}{nm:ByteArray}{tr:List Int}{k:Nat}{pins:List f0v}{v1 v2:Int}{s1 s2:a0u}(hn:nm.size<=8)(hk3:k<=3)(ht:tr.length=2 ^ k)(hp:pins.length=k)(i1:Sd s)(i2:∀p∈pins,cnt y217 p<=3):∃r,n0w nm tr (v1,s1) (v2,s2) (pins,s.1,s.2.1,s.2.2)=some r/\Sd r.2/\s0U r.1:=by
 have hm8:2 ^ k<=8:=(Nat.pow_le_pow_right (by omega) hk3:2 ^ k<=2 ^ 3);unfold n0w;refine a0b ⟨⟨by simp; omega,by simp; omega⟩,trivial⟩ ?_;refine b0c ?_;dsimp only;have hpin:cnt (.sl y217) (pins++[(ByteArray.mk #[(121:UInt8)],(2:Int),(0:Int),false)])<=4+4*3:=c0K (by simp; omega) (fun p hp'=>by
  rcases List.mem_append.1 hp' with hp' | hp'
  ·exact i2 p hp'
  ·rw[List.mem_singleton.1 hp'];show cnt (.pr .str (.pr (.int .i64) (.pr (.int .i64) .bool))) _<=3;simp only[a0M,d0m,j0Z,d0M];decide)
 refine e0g (fun x=>(5-x.1).toNat) (fun x=>∃j:Nat,x.1=(j:Int)/\j<=k/\x.2.1.length<=j/\Sd x.2.2/\∀q∈x.2.1,A0C q) ?_ ⟨0,rfl,by omega,by simp,i1,by simp⟩ (by simp only; omega);rintro g2 ⟨i',arcs,c',at',sd'⟩ ⟨j,hj,hjk,j1,j2,j3⟩ ih2;simp only at hj j1 j2 j3;subst hj;unfold w0w;dsimp only;rw[hp];by_cases c2:(j:Int) < (k:Int)
 ·rw[if_pos (decide_eq_true c2)];obtain⟨w,ew,-⟩:=u0h (c:=(nm,(1:Int),pins++[(ByteArray.mk #[(121:UInt8)],(2:Int),(0:Int),false)],[],tr,v1,v2)) hk3 (p:=j) (m:=k) (by omega) ht;rw[ew];refine a0b ⟨rfl,trivial⟩ (b0c ?_);rw[vS];have nx:∀(as2:List c0f) (s3:a0u),Sd s3->as2.length<=j+1->(∀q∈as2,A0C q)->∃r,k0u (j:Int) g2 (as2,s3.1,s3.2.1,s3.2.2)=some r/\Sd r.2/\s0U r.1:=fun as2 s3 h3 hl hq=>by
   unfold k0u;dsimp only;exact a0b ⟨oo,trivial⟩ (ih2 _ ⟨j+1,by simp only; omega,by omega,hl,h3,hq⟩ (by simp only; omega))
  by_cases c3:w != 0
  ·rw[if_pos c3];obtain⟨⟨q,s4⟩,e4,hs4,q4⟩:=l0S (k:=1) (x:=(j:Int)) (y:=(k:Int)) (z:=w) j2;simp only at hs4 q4 e4;rw[e4];refine a0b ⟨rfl,⟨by simp; omega,by simp; omega⟩,trivial⟩ (b0c (nx _ s4 hs4 (by simp; omega) fun q' hq'=>?_));rcases List.mem_append.1 hq' with hq' | hq'
   ·exact j3 q' hq'
   ·rw[List.mem_singleton.1 hq']; exact q4
  ·rw[if_neg c3];exact nx arcs (c',at',sd') j2 (by omega) j3
 ·rw[if_neg (by simpa using c2)];unfold q0Q;refine⟨_,rfl,j2,?_⟩;have ha:cnt (.sl y143) arcs<=4+4*64:=c0K (by omega) (fun q hq=>t0h (j3 q hq));show cnt (.pr .str (.pr (.int .i64) (.pr (.sl y217) (.pr (.sl y143) (.pr (.sl (.int .i64)) (.pr (.int .i64) (.int .i64))))))) _<=300;simp only[a0M,d0m,d0M,b0T];omega
theorem h0A{s:a0u}{nm:ByteArray}{tr:List Int}{m:Nat}(h:Sd s)(hn:nm.size<=8)(hm:1<=m/\m<=3)(ht:tr.length=2 ^ m):∃r,a0q s nm tr=some r/\Sd r.2/\s0U r.1:=by
 have hm8:2 ^ m<=8:=(Nat.pow_le_pow_right (by omega) hm.2:2 ^ m<=2 ^ 3);obtain⟨v1,s1,e1,hs1,-,-,-⟩:=a0K (n:=50) h (by omega);obtain⟨v2,s2,e2,hs2,-,-,-⟩:=a0K (n:=80) hs1 (by omega);unfold a0q;refine b0c ?_;dsimp only;simp only[e1,e2,vS,Option.isSome_some];refine a0b ⟨trivial,trivial,trivial⟩ (b0c ?_);dsimp only;refine e0g (fun x=>(16-x.1).toNat) (fun x=>∃k,k<=m/\x.1=((2 ^ k:Nat):Int)/\x.2.1.length=k/\Sd x.2.2/\∀p∈x.2.1,cnt y217 p<=3) ?_ ⟨0,by omega,rfl,rfl,hs2,by simp⟩ (by simp only; omega);rintro g ⟨i,pins,c,at0,sd0⟩ ⟨k,hk,hi,hp,i1,i2⟩ ih;simp only at hi hp i1 i2;unfold w0x;dsimp only;subst hi;rw[ht];have hk8:2 ^ k<=2 ^ m:=Nat.pow_le_pow_right (by omega) hk;have hpos:0<2 ^ k:=Nat.pos_of_ne_zero (by simp);have hsuc:2 ^ (k+1)=2*2 ^ k:=by rw[Nat.pow_succ]; omega
 have hkm0:k<m->2 ^ (k+1)<=2 ^ m:=fun h=>Nat.pow_le_pow_right (by omega) h;have hEk:((2 ^ k:Nat):Int)=((2 ^ k:Nat):Int):=rfl;generalize hK2:2 ^ k=K2 at hk8 hpos hsuc ⊢;generalize hM2:2 ^ m=M2 at hk8 hm8 hkm0 ⊢;by_cases c1:(K2:Int) < (M2:Int)
 ·rw[if_pos (decide_eq_true c1)];have hkm:k<m:=by
   rcases Nat.lt_or_ge k m with h' | h'
   ·exact h'
   ·have:k=m:=by omega
    rw[this,hM2] at hK2;omega
  obtain⟨v,s',e,hs',a,b,-⟩:=a0K (n:=9) i1 (by omega);have b:=b (by omega);simp only[e,vS,lE,Option.isSome_some];refine a0b ⟨⟨by omega,by simp; omega⟩,by simp; omega,trivial,oo,⟨by simp; omega,by simp; omega⟩,trivial⟩ (a0b ⟨oo,trivial⟩ ?_);refine ih _ ⟨k+1,by omega,by simp only; rw[hsuc]; omega,by simp[hp],hs',fun p hp'=>?_⟩ (by simp only; omega);rcases List.mem_append.1 hp' with hp' | hp'
  ·exact i2 p hp'
  ·rw[List.mem_singleton.1 hp'];show cnt (.pr .str (.pr (.int .i64) (.pr (.int .i64) .bool))) _<=3;simp only[a0M,d0m,j0Z,d0M];have:=u0T ((pins.length:Int)).toNat;omega
 ·rw[if_neg (by simpa using c1)];have hkm:k=m:=by
   rcases Nat.lt_or_ge k m with h' | h'
   ·have:=hkm0 h';omega
   ·omega
  subst hkm;exact v0z (s:=(c,at0,sd0)) hn hm.2 (by rw[ht,hM2]) hp i1 i2
theorem m0R{s:a0u}{nm:ByteArray}{k e:Int}(h:Sd s)(hn:nm.size<=8):∃r,t0U s nm k e=some r/\Sd r.2/\s0U (r.1.1,r.1.2.1,r.1.2.2.1,r.1.2.2.2.1,[],r.1.2.2.2.2):=by
 obtain⟨v1,s1,e1,hs1,-,-,-⟩:=a0K (n:=50) h (by omega);obtain⟨v2,s2,e2,hs2,-,-,-⟩:=a0K (n:=80) hs1 (by omega);obtain⟨v3,s3,e3,hs3,a3,b3,-⟩:=a0K (n:=9) hs2 (by omega);obtain⟨v4,s4,e4,hs4,a4,b4,-⟩:=a0K (n:=9) hs3 (by omega);have b3:=b3 (by omega);have b4:=b4 (by omega);obtain⟨⟨q5,s5⟩,e5,hs5,a5⟩:=l0S (k:=e) (x:=1) (y:=2) (z:=0) hs4;simp only at hs5 a5 e5;obtain⟨⟨q6,s6⟩,e6,hs6,a6⟩:=l0S (k:=4) (x:=1) (y:=0) (z:=0) hs5;simp only at hs6 a6 e6;obtain⟨⟨q7,s7⟩,e7,hs7,a7⟩:=l0S (k:=5) (x:=1) (y:=0) (z:=0) hs6;simp only at hs7 a7 e7;obtain⟨⟨q8,s8⟩,e8,hs8,a8⟩:=l0S (k:=1) (x:=0) (y:=2) (z:=1) hs7;simp only at hs8 a8 e8;unfold t0U;simp only[lE,e1,e2,e3,e4,e5,e6,e7,e8,vS,Option.isSome_some];refine a0b ⟨trivial,trivial,trivial⟩ (a0b ⟨trivial,oo,trivial,oo,trivial⟩ (a0b ⟨trivial,trivial,trivial,trivial⟩ ?_));have fin:∀(as2:List c0f) (s9:a0u),Sd s9->as2.length<=4->(∀q∈as2,A0C q)->∃r,k0t nm k [(ByteArray.mk #[(100:UInt8)],(1:Int),(1:Int)+v3,false),(ByteArray.mk #[(99:UInt8),(107:UInt8)],(1:Int),(1:Int)+v4,true),(ByteArray.mk #[(113:UInt8)],(2:Int),(0:Int),false)] (v1,s1) (v2,s2) (as2,s9.1,s9.2.1,s9.2.2)=some r/\Sd r.2/\s0U (r.1.1,r.1.2.1,r.1.2.2.1,r.1.2.2.2.1,[],r.1.2.2.2.2):=fun as2 s9 h9 hl hq=>by
  unfold k0t;refine⟨_,rfl,h9,?_⟩;have ha:cnt (.sl y143) as2<=4+4*64:=c0K hl (fun q hq'=>t0h (hq q hq'));show cnt (.pr .str (.pr (.int .i64) (.pr (.sl y217) (.pr (.sl y143) (.pr (.sl (.int .i64)) (.pr (.int .i64) (.int .i64))))))) _<=300;have hp:∀x y:Int,cnt (.sl y217) [(ByteArray.mk #[(100:UInt8)],(1:Int),x,false),(ByteArray.mk #[(99:UInt8),(107:UInt8)],(1:Int),y,true),(ByteArray.mk #[(113:UInt8)],(2:Int),(0:Int),false)]<=10:=fun x y=>by
   rw[d0b];simp only[List.map_cons,List.map_nil,List.sum_cons,List.sum_nil,List.length_cons,List.length_nil];show _+(cnt (.pr .str (.pr (.int .i64) (.pr (.int .i64) .bool))) _+(cnt (.pr .str (.pr (.int .i64) (.pr (.int .i64) .bool))) _+(cnt (.pr .str (.pr (.int .i64) (.pr (.int .i64) .bool))) _+0)))<=10;simp only[a0M,d0m,j0Z,d0M];decide
  have:=hp (1+v3) (1+v4);simp only[a0M,d0m,d0M,b0T,List.length_nil];omega
 have h3:∀q∈[q5,q6,q7],A0C q:=fun q hq=>by
  simp only[List.mem_cons,List.not_mem_nil,or_false] at hq;rcases hq with rfl | rfl | rfl
  ·exact a5
  ·exact a6
  ·exact a7
 by_cases c:(k==3)=true
 ·rw[if_pos c];refine a0b ⟨trivial,⟨by simp,by simp⟩,trivial⟩ (fin _ s8 hs8 (by simp) fun q hq=>?_);rcases List.mem_append.1 hq with hq | hq
  ·exact h3 q hq
  ·rw[List.mem_singleton.1 hq]; exact a8
 ·rw[if_neg c];exact fin _ s7 hs7 (by simp) h3
theorem C0q{s:a0u}(h:Sd s):∃r,B0R s=some r/\Sd r.2/\cnt (.sl y163) r.1<=2408:=by
 obtain⟨⟨c1,s1⟩,e1,h1,p1⟩:=h0A (nm:=ByteArray.mk #[105,110,118]) (tr:=[1,0]) (m:=1) h (by decide) (by decide) rfl;simp only at h1 p1 e1;obtain⟨⟨c2,s2⟩,e2,h2,p2⟩:=h0A (nm:=ByteArray.mk #[98,117,102]) (tr:=[0,1]) (m:=1) h1 (by decide) (by decide) rfl;simp only at h2 p2 e2;obtain⟨⟨c3,s3⟩,e3,h3,p3⟩:=h0A (nm:=ByteArray.mk #[110,97,110,100]) (tr:=[1,1,1,0]) (m:=2) h2 (by decide) (by decide) rfl;simp only at h3 p3 e3;obtain⟨⟨c4,s4⟩,e4,h4,p4⟩:=h0A (nm:=ByteArray.mk #[120,111,114]) (tr:=[0,1,1,0]) (m:=2) h3 (by decide) (by decide) rfl;simp only at h4 p4 e4;obtain⟨⟨c5,s5⟩,e5,h5,p5⟩:=h0A (nm:=ByteArray.mk #[109,117,120]) (tr:=[0,1,0,1,0,0,1,1]) (m:=3) h4 (by decide) (by decide) rfl;simp only at h5 p5 e5;obtain⟨⟨c6,s6⟩,e6,h6,p6⟩:=m0R (nm:=ByteArray.mk #[102,108,111,112]) (k:=2) (e:=2) h5 (by decide);simp only at h6 p6 e6;obtain⟨⟨c7,s7⟩,e7,h7,p7⟩:=m0R (nm:=ByteArray.mk #[102,108,111,112,110]) (k:=2) (e:=3) h6 (by decide);simp only at h7 p7 e7;obtain⟨⟨c8,s8⟩,e8,h8,p8⟩:=m0R (nm:=ByteArray.mk #[108,97,116,99,104]) (k:=3) (e:=2) h7 (by decide);simp only at h8 p8 e8;unfold B0R;simp only[lE,e1,e2,e3,e4,e5,e6,e7,e8,vS,Option.isSome_some];refine a0b ⟨trivial,trivial,trivial⟩ (a0b ⟨trivial,trivial,trivial⟩ (a0b ⟨trivial,trivial,trivial⟩ (a0b ⟨trivial,trivial,trivial⟩ (a0b ⟨trivial,trivial,trivial⟩ (a0b ⟨trivial,trivial⟩ (a0b ⟨trivial,trivial⟩ (a0b ⟨trivial,trivial⟩ ⟨_,rfl,h8,?_⟩)))))));refine Nat.le_trans (c0K (m:=8) (k:=300) (by simp) fun c hc=>?_) (by decide);simp only[List.mem_cons,List.not_mem_nil,or_false] at hc;rcases hc with rfl | rfl | rfl | rfl | rfl | rfl | rfl | rfl
 ·exact p1
 ·exact p2
 ·exact p3
 ·exact p4
 ·exact p5
 ·exact p6
 ·exact p7
 ·exact p8
theorem h0Y{e:Option Unit}(h:∃r,e=some r/\True):e=some ():=by
 obtain⟨_,h,_⟩:=h;exact h
theorem k0i{s:a0u}(hw:wf a0n s)(h:sd s):Sd s:=⟨h,hw.1.1,fun b hb=>hw.1.2 b hb⟩
theorem r0P:∀(m:Nat) (n:Int),0<=n->n<10 ^ m->1<=m/\m<=40->∃r,p0o m n=some r/\r.size<=m
 | 0,n,h0,h1,h2=>by omega
 | m+1,n,h0,h1,hm=>by
   show ∃r,t0T (p0o m) n=some r/\r.size<=m+1;unfold t0T;rw[if_neg (by simp; omega)];have h2:0<=n.tmod 10/\n.tmod 10<10:=⟨Int.tmod_nonneg _ h0,Int.tmod_lt_of_pos _ (by omega)⟩;by_cases c:n<10
   ·rw[if_pos (decide_eq_true c)];refine a0b ⟨oo,trivial,by simp,trivial⟩ ⟨_,rfl,?_⟩;rw[strOfNums_size];simp
   ·rw[if_neg (by simpa using c)];have h3:n.tdiv 10<10 ^ m:=by
     rw[Int.tdiv_eq_ediv_of_nonneg h0];have:(10:Int) ^ (m+1)=10*10 ^ m:=by rw[Int.pow_succ]; omega
     omega
    have hm1:1<=m:=by
     rcases Nat.eq_zero_or_pos m with h | h
     ·subst h; simp at h1; omega
     ·exact h
    obtain⟨r,e,hr⟩:=r0P m (n.tdiv 10) (Int.tdiv_nonneg h0 (by omega)) h3 (by omega);rw[e];refine a0b ⟨by omega,rfl,by omega,oo,trivial,by simp,?_,trivial⟩ (b0c ⟨_,rfl,?_⟩)
    ·rw[vS,strOfNums_size]; simp; omega
    ·rw[vS,ByteArray.size_append,strOfNums_size]; simp; omega
theorem x0X{n:Int}(h0:0<=n)(h1:n<1000):∃r,t0p n=some r/\r.size<=25 :=
 r0P 25 n h0 (by have:(1000:Int)<10 ^ 25:=by decide
                 omega) (by omega)
theorem m0J{xs:List Int}(h:xs.length<=1000):h0V xs=some xs:=by
 unfold h0V;rw[gP ⟨oo,trivial⟩];rfl
def E0X(d:Y31):Prop:=(d.1.length<=6/\∀i∈d.1,i.2.2.length<=4)/\d.2.2.length<=5
theorem z0E{d:Y31}(h:E0X d):∃r,n0K d=some r/\r.length<=29:=by
 obtain⟨⟨h1,h2⟩,h3⟩:=h;unfold n0K;refine e0g (fun x=>(7-x.1).toNat) (fun x=>0<=x.1/\x.1<=6/\(x.2.length:Int)<=4*x.1) ?_ ⟨by simp only; omega,by simp only; omega,by simp⟩ (by simp only; omega);rintro g ⟨i,out⟩ ⟨i1,i2,i3⟩ ih;simp only at i1 i2 i3;unfold r0g;dsimp only;by_cases c:i < (d.1.length:Int)
 ·rw[if_pos (decide_eq_true c)];refine a0b ⟨⟨i1,c⟩,trivial⟩ (b0c ?_);have hlt:i.toNat<d.1.length:=by omega
  have hn:(d.1.getD i.toNat (a0a y165)).2.2.length<=4:=by
   rw[gq,List.getElem?_eq_getElem hlt];exact h2 _ (List.getElem_mem hlt)
  generalize d.1.getD i.toNat (a0a y165)=x at hn;refine e0g (fun x=>(5-x.1).toNat) (fun y=>0<=y.1/\y.1<=4/\(y.2.length:Int)<=4*i+y.1) ?_ ⟨by simp only; omega,by simp only; omega,by simp only; omega⟩ (by simp only; omega);rintro g2 ⟨k,out2⟩ ⟨k1,k2,k3⟩ ih2;simp only at k1 k2 k3;unfold r0f;dsimp only;by_cases c2:k < (x.2.2.length:Int)
  ·rw[if_pos (decide_eq_true c2)];refine a0b ⟨⟨k1,c2⟩,oo,⟨by simp; omega,by simp; omega⟩,trivial⟩ (b0c ?_);dsimp only;exact a0b ⟨oo,trivial⟩ (ih2 _ ⟨by simp only; omega,by simp only; omega,by simp; omega⟩ (by simp only; omega))
  ·rw[if_neg (by simpa using c2)];unfold n0J;exact a0b ⟨oo,trivial⟩ (ih _ ⟨by simp only; omega,by simp only; omega,by simp only; omega⟩ (by simp only; omega))
 ·rw[if_neg (by simpa using c)];unfold i0A;refine e0g (fun x=>(6-x.1).toNat) (fun y=>0<=y.1/\y.1<=5/\(y.2.length:Int)<=24+y.1) ?_ ⟨by simp only; omega,by simp only; omega,by simp only; omega⟩ (by simp only; omega);rintro g2 ⟨k,out2⟩ ⟨k1,k2,k3⟩ ih2;simp only at k1 k2 k3;unfold r0e;dsimp only;by_cases c2:k < (d.2.2.length:Int)
  ·rw[if_pos (decide_eq_true c2)];refine a0b ⟨⟨k1,c2⟩,⟨k1,c2⟩,⟨by simp; omega,by simp; omega⟩,trivial⟩ (b0c ?_);dsimp only;exact a0b ⟨oo,trivial⟩ (ih2 _ ⟨by simp only; omega,by simp only; omega,by simp; omega⟩ (by simp only; omega))
  ·rw[if_neg (by simpa using c2)];exact⟨_,rfl,by omega⟩
theorem B0V{d:Y31}{t:Int}(h:E0X d):∃r,u71 d t=some r/\r.length<=29:=by
 obtain⟨p,e,hp⟩:=z0E h;unfold u71;rw[e];refine a0b ⟨rfl,trivial⟩ (b0c ?_);rw[vS];refine e0g (fun x=>(30-x.1).toNat) (fun x=>0<=x.1/\x.1<=29/\(x.2.length:Int)<=x.1) ?_ ⟨by simp only; omega,by simp only; omega,by simp⟩ (by simp only; omega);rintro g ⟨i,out⟩ ⟨i1,i2,i3⟩ ih;simp only at i1 i2 i3;unfold y0x;dsimp only;by_cases c:i < (p.length:Int)
 ·rw[if_pos (decide_eq_true c)];refine a0b ⟨⟨i1,c⟩,by omega,fun _=>⟨i1,c⟩,fun _=>by omega,trivial⟩ ?_;have nx:∀o2:List Int,(o2.length:Int)<=i+1->∃r,p0g i g o2=some r/\r.length<=29:=fun o2 ho=>by
   unfold p0g;exact a0b ⟨oo,trivial⟩ (ih _ ⟨by simp only; omega,by simp only; omega,ho⟩ (by simp only; omega))
  split
  ·exact a0b ⟨⟨by simp; omega,by simp; omega⟩,trivial⟩ (nx _ (by simp; omega))
  ·exact nx _ (by omega)
 ·rw[if_neg (by simpa using c)];exact⟨_,rfl,by omega⟩
section
variable [Alw]
theorem y0n{s:a0u}{n:Int}(h:Sd s)(h0:0<=n)(h1:n<=40):D0y s n=some ():=by
 refine h0Y ?_;obtain⟨v0,s0,e0,hs0,a0,b0,-⟩:=a0K (n:=6) h (by omega);obtain⟨v1,s1,e1,hs1,a1,b1,-⟩:=a0K (n:=4) hs0 (by omega);have b1:=b1 (by omega);have el:B0M n v0=some ([-1],[0],[v0],List.replicate n.toNat 0):=by
  unfold B0M;rw[gP ⟨⟨h0,rfl,by omega,by omega⟩,trivial⟩]
 unfold D0y;simp only[e0,el,vS,Option.isSome_some];refine a0b ⟨trivial,trivial,trivial⟩ (b0c ?_);dsimp only;simp only[e1,vS,Option.isSome_some];refine a0b ⟨trivial,trivial⟩ (b0c ?_);refine e0g (fun x=>x.1.toNat) (fun x=>Sd (x.2.1,x.2.2.1,x.2.2.2.1)/\0<=x.1/\(1<=x.2.2.2.2.1.length/\(x.2.2.2.2.1.length:Int)+x.1<=4)/\(1<=x.2.2.2.2.2.1.length/\(x.2.2.2.2.2.1.length:Int)+x.1<=4)/\1<=x.2.2.2.2.2.2.length/\(x.2.2.2.2.2.2.length:Int)+x.1<=4) ?_ ⟨hs1,by simp only; omega,⟨by simp,by simp; omega⟩,⟨by simp,by simp; omega⟩,by simp,by simp; omega⟩ (by simp only; omega);rintro g ⟨m,c,at0,sd0,P,R,C⟩ ⟨i1,i2,⟨i3,i4⟩,⟨i5,i6⟩,i7,i8⟩ ih;simp only at i1 i2 i3 i4 i5 i6 i7 i8;unfold w0Q;dsimp only;by_cases cm:0<m
 ·rw[if_pos (decide_eq_true cm)];obtain⟨v2,s2,e2,hs2,-,-,-⟩:=a0K (n:=(P.length:Int)) i1 (by omega);obtain⟨v3,s3,e3,hs3,-,-,-⟩:=a0K (n:=400) hs2 (by omega);obtain⟨v4,s4,e4,hs4,-,-,-⟩:=a0K (n:=8) hs3 (by omega);rw[m0J (xs:=P) (by omega),m0J (xs:=R) (by omega),m0J (xs:=C) (by omega)];simp only[e2,e3,e4,vS,Option.isSome_some];refine a0b ⟨trivial,trivial,⟨by simp; omega,by simp; omega⟩,trivial,trivial,⟨by simp; omega,by simp; omega⟩,trivial,trivial,⟨by simp; omega,by simp; omega⟩,trivial⟩ (b0c ?_);dsimp only;exact a0b ⟨oo,trivial⟩ (ih _ ⟨hs4,by simp only; omega,⟨by simp,by simp; omega⟩,⟨by simp,by simp; omega⟩,by simp,by simp; omega⟩ (by simp only; omega))
 ·rw[if_neg (by simpa using cm)];unfold q0S;refine e0g (fun x=>(41-x.1).toNat) (fun x=>Sd (x.2.1,x.2.2.1,x.2.2.2.1)/\0<=x.1/\x.1<=40/\x.2.2.2.2.length=n.toNat) ?_ ⟨i1,by simp only; omega,by simp only; omega,by simp⟩ (by simp only; omega);rintro g2 ⟨i,c',at',sd',sk⟩ ⟨k1,k2,k3,k4⟩ ih2;simp only at k1 k2 k3 k4;unfold w0P;dsimp only;by_cases c2:i < (sk.length:Int)
  ·rw[if_pos (decide_eq_true c2)];obtain⟨v5,s5,e5,hs5,-,-,-⟩:=a0K (n:=(P.length:Int)) k1 (by omega);simp only[e5,vS,Option.isSome_some];refine a0b ⟨trivial,⟨k2,c2⟩,by omega,trivial⟩ (b0c ?_);exact a0b ⟨oo,trivial⟩ (ih2 _ ⟨hs5,by simp only; omega,by simp only; omega,by simp[k4]⟩ (by simp only; omega))
  ·rw[if_neg (by simpa using c2)];unfold q0R;refine a0b ⟨k1.1,i3,i5,i7,?_⟩ ⟨_,rfl,trivial⟩;show cnt (.pr (.sl (.int .i64)) (.pr (.sl (.int .i64)) (.pr (.sl (.int .i64)) (.sl (.int .i64))))) _<=60;simp only[a0M,b0T];omega
end
theorem p0a{e:Ty}(he:∀x y,shp e x y->cnt e y=cnt e x):∀{xs ys:List (den e)},AllS (shp e) xs ys->(ys.map (cnt e)).sum=(xs.map (cnt e)).sum
 | [],_,h=>by rw[show _=[] from h]
 | x :: r,_,⟨y,r',e1,h1,h2⟩=>by
   subst e1;simp only[List.map_cons,List.sum_cons];rw[he x y h1,p0a he h2]
theorem e0p:∀(t:Ty) (x y:den t),shp t x y->cnt t y=cnt t x
 | .int _,_,_,_=>by simp only[cnt]
 | .bool,_,_,h=>by rw[show _=_ from h]
 | .str,_,_,h=>by rw[show _=_ from h]
 | .sl e,x,y,h=>by
   rw[d0b,d0b,AllS.len h,p0a (e0p e) h]
 | .pt e,x,y,h=>by
   show cnt e y=cnt e x;exact e0p e x y h
 | .pr a b,x,y,h=>by
   rw[a0M,a0M,e0p a x.1 y.1 h.1,e0p b x.2 y.2 h.2]
theorem c0I[Alw]{ζ:Type}{p:ζ->Prop}{f:ζ->Option Unit}(h:∀z,p z->f z=some ()):∃r,Alw.alp p f=some r/\True:=⟨(),Alw.alp_u h,trivial⟩
theorem z0O:∀j:Nat,0<=([(0:Int),1,2,2,3,4,5,5,5,6,7,1]).getD j 0/\([(0:Int),1,2,2,3,4,5,5,5,6,7,1]).getD j 0<=7
 | 0 | 1 | 2 | 3 | 4 | 5 | 6 | 7 | 8 | 9 | 10 | 11=>by decide
 | n+12=>by simp
theorem C0g:∀j:Nat,j<8->2<=([(2:Int),2,3,3,4,3,3,3]).getD j 0/\([(2:Int),2,3,3,4,3,3,3]).getD j 0<=4
 | 0,_ | 1,_ | 2,_ | 3,_ | 4,_ | 5,_ | 6,_ | 7,_=>by decide
 | n+8,h=>by omega
def q0j(x:a0H):Prop:=1<=x.2.2.length/\x.2.2.length<=4/\x.1.size<=26
theorem z0w{x:a0H}(h:q0j x):cnt y165 x<=30:=by
 obtain⟨h1,h2,h3⟩:=h;show cnt (.pr .str (.pr (.int .i64) (.sl (.int .i64)))) x<=30;rw[a0M,a0M,d0M,d0m,b0T];omega
theorem z0v{x y:a0H}(h:shp y165 x y)(hx:q0j x):q0j y:=by
 obtain⟨h1,h2,h3⟩:=h;obtain⟨k1,k2,k3⟩:=hx;have h3:y.2.2.length=x.2.2.length:=AllS.len h3;have h1:y.1=x.1:=h1;exact⟨by omega,by omega,by rw[h1]; exact k3⟩
section
variable [Alw]
abbrev D0M:List b0g:=[(ByteArray.mk #[(99:UInt8),(107:UInt8)],(1:Int),(0:Int)),(ByteArray.mk #[(97:UInt8)],(1:Int),(1:Int)),(ByteArray.mk #[(98:UInt8)],(1:Int),(2:Int))]
theorem l0K{ins:List a0H}{nets:List ByteArray}{prts:List b0g}{s:a0u}(h:Sd s)(h1:ins.length<=6)(h2:∀x∈ins,q0j x)(h3:3<=nets.length/\nets.length<=9)(h4:∀x∈nets,x.size<=26)(h5:1<=prts.length/\prts.length<=5)(h6:∀p∈prts,p.1.size<=2) :
  ∃r,g0Q ins nets (prts,s.1,s.2.1,s.2.2)=some r/\True:=by
 unfold g0Q;refine a0b ⟨h.1,⟨h1,fun i hi=>(h2 i hi).2.1⟩,⟨by simp only; omega,by simp only; omega⟩,h5,?_⟩ ⟨_,rfl,trivial⟩;have e1:=c0K (e:=y165) h1 (fun x hx=>z0w (h2 x hx));have e2:=c0K (e:=.str) h3.2 (fun x hx=>(by rw[d0M]; exact h4 x hx:cnt .str x<=26));have e3:=c0K (e:=y175) h5.2 (k:=2) (fun x hx=>by
  show cnt (.pr .str (.pr (.int .i64) (.int .i64))) x<=2;rw[a0M,a0M,d0M,d0m,d0m];have:=h6 x hx;omega)
 show cnt (.pr (.sl y165) (.pr (.sl .str) (.sl y175))) _<=2000;rw[a0M,a0M];simp only at e1 e2 e3 ⊢;omega
theorem v0J{ins a b:List a0H}{nets n2:List ByteArray}{p2:List b0g}{s:a0u}(h:Sd s)(h1:ins.length<=6)(h2:∀x∈ins,q0j x)(h3:3<=nets.length/\nets.length<=9)(h4:∀x∈nets,x.size<=26) :
  ∃r,n0z nets D0M (s.1,s.2.1,s.2.2,ins,a,b,n2,p2)=some r/\True:=by
 unfold n0z;refine a0b ⟨⟨by simp,by simp⟩,trivial⟩ (a0b ⟨oo,⟨by simp,by simp⟩,trivial⟩ (b0c ?_));dsimp only;obtain⟨v,s1,e,hs1,-,-,-⟩:=a0K (n:=2) h (by omega);obtain⟨w,s2,e2,hs2,a2,b2,-⟩:=a0K (n:=(nets.length:Int)-1) hs1 (by omega);have b2:=b2 (by omega);obtain⟨c0,at0,sd0⟩:=s;simp only[e,vS,Option.isSome_some];refine a0b ⟨trivial,trivial⟩ (b0c ?_);dsimp only;have hp:∀p∈([]++D0M++[(ByteArray.mk #[(121:UInt8)],(2:Int),(nets.length:Int)-1)]:List b0g),p.1.size<=2:=fun p hp=>by
  simp only[D0M,List.nil_append,List.cons_append,List.mem_cons,List.not_mem_nil,or_false] at hp;rcases hp with rfl | rfl | rfl | rfl
  ·decide
  ·decide
  ·decide
  ·exact(by decide:(ByteArray.mk #[(121:UInt8)]).size<=2)
 split
 ·simp only[e2,vS,Option.isSome_some];refine a0b ⟨oo,trivial,oo,⟨by simp,by simp⟩,trivial⟩ (b0c ?_);dsimp only;refine l0K (s:=s2) hs2 h1 h2 h3 h4 (by simp) (fun p hp'=>?_);rcases List.mem_append.1 hp' with hp' | hp'
  ·exact hp p hp'
  ·rw[List.mem_singleton.1 hp'];exact(by decide:(ByteArray.mk #[(122:UInt8)]).size<=2)
 ·exact l0K (s:=s1) hs1 h1 h2 h3 h4 (by simp) hp
theorem v0K{ins a b:List a0H}{nets n2:List ByteArray}{p2:List b0g}{s:a0u}{wild:Bool}(h:Sd s)(h1:ins.length<=6)(h2:∀x∈ins,q0j x)(h3:3<=nets.length/\nets.length<=9)(h4:∀x∈nets,x.size<=26) :
  ∃r,n0A wild D0M (s.1,s.2.1,s.2.2,nets,ins,a,b,n2,p2)=some r/\True:=by
 unfold n0A;refine e0g (fun x=>(7-x.1).toNat) (fun x=>Sd (x.2.1,x.2.2.1,x.2.2.2.1)/\0<=x.1/\x.1<=6/\x.2.2.2.2.1.length<=6/\∀y∈x.2.2.2.2.1,q0j y) ?_ ⟨h,by simp only; omega,by simp only; omega,h1,h2⟩ (by simp only; omega);rintro g ⟨i,c,at0,sd0,is2,a2,b2,n3,p3⟩ ⟨i1,i2,i3,i4,i5⟩ ih;simp only at i1 i2 i3 i4 i5;unfold w0R;dsimp only;by_cases cm:i < (is2.length:Int)
 ·rw[if_pos (decide_eq_true cm)];obtain⟨v,s1,e,hs1,-,-,-⟩:=a0K (n:=4) i1 (by omega);obtain⟨w,s2,e2,hs2,wa,wb,-⟩:=a0K (n:=(nets.length:Int)-1) hs1 (by omega);have wb:=wb (by omega);have hlt:i.toNat<is2.length:=by omega
  simp only[e,vS,Option.isSome_some];refine a0b ⟨trivial,fun _=>⟨i2,cm⟩,fun _=>hlt,fun _=>⟨i2,cm⟩,fun _=>hlt,trivial⟩ (b0c ?_);dsimp only;have nx:∀(s3:a0u) (is3 a3 b3:List a0H) (n4:List ByteArray) (p4:List b0g),Sd s3->is3.length<=6->(∀y∈is3,q0j y)->∃r,k0A i g (s3.1,s3.2.1,s3.2.2,is3,a3,b3,n4,p4)=some r/\True:=fun s3 is3 a3 b3 n4 p4 q1 q2 q3=>by
   unfold k0A;exact a0b ⟨oo,trivial⟩ (ih _ ⟨q1,by simp only; omega,by simp only; omega,q2,q3⟩ (by simp only; omega))
  split
  ·simp only[e2,vS,Option.isSome_some];have hin:q0j (is2.getD i.toNat (a0a y165)):=by
    rw[gq,List.getElem?_eq_getElem hlt];exact i5 _ (List.getElem_mem hlt)
   have:=hin.1;refine a0b ⟨⟨i2,cm⟩,hlt,oo,trivial,oo,oo,trivial⟩ (c0I ?_);rintro⟨v132,v133,v134,v135,v136,v137,v138,v139,v140⟩ ⟨-,-,k3,-,k5,-⟩;dsimp only;refine h0Y (a0b trivial ?_);have hw:wf (.sl (.int .u8)) v134:=k3.2 ⟨hs2.2.1,fun b hb=>hs2.2.2 b hb⟩;have hl:v136.length=is2.length:=AllS.len k5;refine nx (v134,s2.2.1,s2.2.2) v136 v137 v138 v139 v140 ⟨hs2.1,hw.1,fun b hb=>hw.2 b hb⟩ (by omega) ?_;exact AllS.all (p:=q0j) (q:=q0j) (fun x y hxy hx=>z0v hxy hx) k5 i5
  ·exact nx s1 is2 a2 b2 n3 p3 hs1 i4 i5
 ·rw[if_neg (by simpa using cm)];exact v0J (s:=(c,at0,sd0)) i1 i4 i5 h3 h4
theorem C0B{s:a0u}{most:Int}{wild:Bool}(h:Sd s)(h0:2<=most)(h1:most<=6):D0z s most wild=some ():=by
 refine h0Y ?_;unfold D0z;refine b0c ?_;refine b0c ?_;obtain⟨v,s0,e0,hs0,a0,b0,-⟩:=a0K (n:=most-1) h (by omega);have b0:=b0 (by omega);simp only[e0,vS,Option.isSome_some];refine a0b ⟨⟨by simp,by simp⟩,trivial⟩ (a0b ⟨oo,trivial,oo,trivial⟩ (b0c ?_));refine e0g (fun x=>x.1.toNat) (fun x=>Sd (x.2.1,x.2.2.1,x.2.2.2.1)/\0<=x.1/\(x.2.2.2.2.2.1.length:Int)+x.1<=6/\3<=x.2.2.2.2.1.length/\(x.2.2.2.2.1.length:Int)+x.1<=9/\(∀y∈x.2.2.2.2.2.1,q0j y)/\∀y∈x.2.2.2.2.1,y.size<=26) ?_
  ⟨hs0,by simp only; omega,by simp; omega,by simp,by simp; omega,by simp,by
    intro y hy;simp only[List.nil_append,List.mem_cons,List.not_mem_nil,or_false] at hy;rcases hy with rfl | rfl | rfl <;> decide⟩ (by simp only; omega)
 rintro g ⟨m,c,at0,sd0,nets,ins,a1,a2,a3,a4⟩ ⟨i1,i2,i3,i4,i5,i6,i7⟩ ih;simp only at i1 i2 i3 i4 i5 i6 i7;unfold w0T;dsimp only;by_cases cm:0<m
 ·rw[if_pos (decide_eq_true cm)];obtain⟨v1,s1,e1,hs1,q1,q2,-⟩:=a0K (n:=12) i1 (by omega);have q2:=q2 (by omega);simp only[e1,vS,Option.isSome_some];refine a0b ⟨trivial,⟨by omega,by simp; omega⟩,by simp; omega,trivial⟩ (b0c ?_);dsimp only;have hc:=z0O v1.toNat;generalize ([(0:Int),1,2,2,3,4,5,5,5,6,7,1]).getD v1.toNat 0=cell at hc ⊢;obtain⟨nm,e2,hnm⟩:=x0X (n:=(ins.length:Int)) (by omega) (by omega);obtain⟨nm2,e3,hnm2⟩:=x0X (n:=(nets.length:Int)) (by omega) (by omega);rw[e2]
  refine a0b ⟨rfl,by rw[vS]; have:(ByteArray.mk #[117]).size=1:=rfl
                     omega,trivial⟩ (b0c ?_)
  rw[vS];have hpn:=C0g cell.toNat (by omega);refine e0g (fun x=>(5-x.1).toNat) (fun x=>Sd (x.2.2.1,x.2.2.2.1,x.2.2.2.2)/\0<=x.1/\x.1<=3/\(x.2.1.length:Int)=x.1) ?_ ⟨hs1,by simp only; omega,by simp only; omega,by simp⟩ (by simp only; omega);rintro g2 ⟨k,xn,c2,at2,sd2⟩ ⟨k1,k2,k3,k4⟩ ih2;simp only at k1 k2 k3 k4;unfold w0S;dsimp only;refine a0b ⟨⟨by omega,by simp; omega⟩,by simp; omega,oo,trivial⟩ ?_;by_cases ck:k < ([(2:Int),2,3,3,4,3,3,3]).getD cell.toNat 0-1
  ·rw[if_pos (decide_eq_true ck)];obtain⟨v3,s3,e4,hs3,w1,w2,-⟩:=a0K (n:=(nets.length:Int)-1) k1 (by omega);have w2:=w2 (by omega);obtain⟨v4,s4,e5,hs4,-,-,-⟩:=a0K (n:=3) hs3 (by omega);simp only[e4,vS,Option.isSome_some];refine a0b ⟨oo,trivial,oo,trivial⟩ (b0c ?_);dsimp only;simp only[e5,vS,Option.isSome_some];refine a0b ⟨trivial,trivial⟩ (b0c ?_);dsimp only;have n6:∀(x:Int) (s5:a0u),Sd s5->∃r,k0B k xn s5.1 s5.2.1 s5.2.2 g2 x=some r/\True:=fun x s5 hs5=>by
    unfold k0B;exact a0b ⟨oo,⟨by simp; omega,by simp; omega⟩,trivial⟩ (a0b ⟨oo,trivial⟩ (ih2 _ ⟨hs5,by simp only; omega,by simp only; omega,by simp; omega⟩ (by simp only; omega)))
   have n5:∀(x:Int) (s5:a0u),Sd s5->∃r,k0C k xn cell g2 (s5.1,s5.2.1,s5.2.2,x)=some r/\True:=fun x s5 hs5=>by
    unfold k0C;dsimp only;split
    ·exact n6 _ s5 hs5
    ·exact n6 _ s5 hs5
   split
   ·exact a0b ⟨oo,trivial⟩ (n5 _ s4 hs4)
   ·exact n5 _ s4 hs4
  ·rw[if_neg (by simpa using ck)];unfold q0T;dsimp only;refine a0b ⟨oo,⟨by simp; omega,by simp; omega⟩,trivial⟩ ?_;rw[e3];have hu:(ByteArray.mk #[110]).size=1:=rfl;refine a0b ⟨rfl,by rw[vS]; omega,⟨by simp; omega,by simp; omega⟩,trivial⟩ (b0c ?_);rw[vS];refine a0b ⟨⟨by simp; omega,by simp; omega⟩,trivial⟩ (b0c ?_);dsimp only;unfold q0U;dsimp only;refine a0b ⟨oo,trivial⟩ (ih _ ⟨k1,by simp only; omega,by simp; omega,by simp; omega,by simp; omega,fun y hy=>?_,fun y hy=>?_⟩ (by simp only; omega))
   ·rcases List.mem_append.1 hy with hy | hy
    ·exact i6 y hy
    ·rw[List.mem_singleton.1 hy];exact⟨by simp,by simp; omega,by
      have h117:(ByteArray.mk #[117]).size=1:=rfl;rw[ByteArray.size_append]; omega⟩
   ·rcases List.mem_append.1 hy with hy | hy
    ·exact i7 y hy
    ·rw[List.mem_singleton.1 hy,ByteArray.size_append]; omega
 ·rw[if_neg (by simpa using cm)];exact v0K (s:=(c,at0,sd0)) i1 (by omega) i6 ⟨i4,by omega⟩ i7
end
end Go.Proofs.YtphnknndgfgepaaGreatDoor
end
