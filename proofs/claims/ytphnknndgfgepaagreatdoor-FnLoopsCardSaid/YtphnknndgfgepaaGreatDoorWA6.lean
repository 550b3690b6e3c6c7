/- Plain words on names: no program in sight. -/
import Derived.Test.YtphnknndgfgepaaGreatDoorXA6
import Derived.Lib.SlTrimSet
import Derived.Lib.Bytealg
import Derived.Test.YtphnknndgfgepaaGreatDoorF76d
import Derived.Test.YtphnknndgfgepaaGreatDoorXF6
import Derived.Test.YtphnknndgfgepaaGreatDoorG76
section
namespace Go.Proofs.Sv
open Go
def Aq(c:Int):Bool:=decide (c≥97)&&decide (c<=122)
def Rz(c:Int):Bool:=decide (c≥48)&&decide (c<=57)
def chB(c:Int)(i:Nat):Bool:=Aq c||(Rz c&&decide (0<i))
def Bq(s:ByteArray):Nat->Bool
 | 0=>true
 | k+1=>Bq s k&&chB (B8 s k) k
def nmB(s:ByteArray):Bool:=Bq s s.size&&decide ((s.size:Int)≥1)&&decide ((s.size:Int)<=8)
theorem r0L(s:ByteArray)(k:Nat):∀j,k<=j->Bq s j=true->Bq s k=true:=by
 intro j hj h
 induction j with
 | zero=>have:k=0:=by omega
         subst this; rfl
 | succ j ih =>
   by_cases hk:k=j+1
   ·subst hk; exact h
   ·simp only[Bq,ba] at h;exact ih (by omega) h.1
def low26:List UInt8:=[97,98,99,100,101,102,103,104,105,106,107,108,109,110,111,112,113,114,115,116,117,118,119,120,121,122]
def low36:List UInt8:=[97,98,99,100,101,102,103,104,105,106,107,108,109,110,111,112,113,114,115,116,117,118,119,120,121,122,48,49,50,51,52,53,54,55,56,57]
theorem r0X:∀n:Fin 256,low26.contains (UInt8.ofNat n.val)=Aq (n.val:Int):=by decide +kernel
theorem r0V:∀n:Fin 256,low36.contains (UInt8.ofNat n.val)=(Aq (n.val:Int)||Rz (n.val:Int)):=by decide +kernel
theorem r0W(b:UInt8):low26.contains b=Aq (b.toNat:Int):=by
 have:=r0X ⟨b.toNat,b.toNat_lt⟩;simpa using this
theorem Hg(b:UInt8):low36.contains b=(Aq (b.toNat:Int)||Rz (b.toNat:Int)):=by
 have:=r0V ⟨b.toNat,b.toNat_lt⟩;simpa using this
theorem Jg(c:UInt8):∀l:List UInt8,decide (0<=Lib.indexByte l c)=l.contains c
 | []=>by simp[Lib.indexByte]
 | b :: l=>by
   have ih:=Jg c l;have hg:=Lib.indexByte_ge l c;unfold Lib.indexByte;by_cases hb:b=c
   ·subst hb; simp
   ·have hb':¬c=b:=fun h=>hb h.symm;have e1:(b==c)=false:=by simpa using hb
    rw[e1,List.contains_cons,show(c==b)=false by simpa using hb',<- ih];by_cases h1:Lib.indexByte l c = -1
    ·simp[h1]
    ·have:(Lib.indexByte l c == -1)=false:=by simpa using h1
     rw[this];simp only[Bool.false_eq_true,if_false,Bool.false_or];rw[Bool.eq_iff_iff]; simp only[dq]; omega
theorem Kg{α:Type}(p:α->Bool):∀l:List α,l.dropWhile p=[]↔∀x∈l,p x=true
 | []=>by simp
 | x :: r=>by
   rw[List.dropWhile_cons];by_cases h:p x=true
   ·simp[h,Kg p r]
   ·simp[h]
theorem Lg{α:Type}(p:α->Bool)(x:α):∀l:List α,x∈l.takeWhile p->p x=true
 | [],h=>by cases h
 | y :: r,h=>by
   rw[List.takeWhile_cons] at h;by_cases hy:p y=true
   ·rw[if_pos hy] at h;rcases List.mem_cons.1 h with rfl | h
    ·exact hy
    ·exact Lg p x r h
   ·rw[if_neg hy] at h; cases h
theorem r0c(l cs:List UInt8):Lib.trimS l cs=[]↔∀b∈l,cs.contains b=true:=by
 unfold Lib.trimS Lib.trimLeftS Lib.trimRightS;rw[Kg];constructor
 ·intro h b hb;have e:l=(l.reverse.dropWhile (cs.contains ·)).reverse++(l.reverse.takeWhile (cs.contains ·)).reverse:=by
   rw[<- List.reverse_append,List.takeWhile_append_dropWhile,List.reverse_reverse]
  rw[e] at hb;rcases List.mem_append.1 hb with hb | hb
  ·exact h b hb
  ·have:=List.mem_reverse.1 hb;exact Lg (cs.contains ·) b _ this
 ·intro h b hb;exact h b (by have:=(List.dropWhile_sublist _).mem (List.mem_reverse.1 hb); exact List.mem_reverse.1 this)
theorem Mg(s:ByteArray)(h0:Aq (B8 s 0)=true):∀k,k<=s.size->(Bq s k=true↔∀i,i<k->(Aq (B8 s i)||Rz (B8 s i))=true)
 | 0,_=>by simp[Bq]
 | k+1,hk=>by
   have ih:=Mg s h0 k (by omega);simp only[Bq,ba,ih];constructor
   ·rintro⟨h1,h2⟩ i hi;by_cases hik:i=k
    ·subst hik;unfold chB at h2;cases hl:Aq (B8 s i) with
     | true=>simp
     | false=>rw[hl] at h2; simp only[Bool.false_or,ba] at h2; simp[h2.1]
    ·exact h1 i (by omega)
   ·intro h;refine⟨fun i hi=>h i (by omega),?_⟩;have:=h k (by omega);unfold chB;by_cases hk0:k=0
    ·subst hk0; simp[h0]
    ·have hp:decide (0<k)=true:=by simp; omega
     rw[hp]; simpa using this
theorem t0O(s:ByteArray):Lib.trimS s.data.toList low36=[]↔∀i,i<s.size->(Aq (B8 s i)||Rz (B8 s i))=true:=by
 rw[r0c];have hl:s.data.toList.length=s.size:=by simp
 constructor
 ·intro h i hi;have hi':i<s.data.toList.length:=by rw[hl]; exact hi
  have:=h s.data.toList[i] (List.getElem_mem hi');rw[Hg] at this;unfold B8;rw[gq,List.getElem?_eq_getElem hi'];exact this
 ·intro h b hb;obtain⟨i,hi,rfl⟩:=List.getElem_of_mem hb;have:=h i (by rw[<- hl]; exact hi);unfold B8 at this;rw[gq,List.getElem?_eq_getElem hi] at this;rw[Hg]; exact this
theorem u0F(s:ByteArray)(h1:1<=s.size)(h8:s.size<=8):nmB s=((Lib.trimS s.data.toList low36==[])&&decide (0<=Lib.indexByte low26 (B8 s 0).toNat.toUInt8)):=by
 have e0:(B8 s 0).toNat.toUInt8=s.data.toList.getD 0 0:=by unfold B8; simp
 rw[e0,Jg,r0W];show nmB s=(_&&Aq (B8 s 0));have g1:decide ((s.size:Int)≥1)=true:=by simp; omega
 have g2:decide ((s.size:Int)<=8)=true:=by simp; omega
 unfold nmB;rw[g1,g2,Bool.and_true,Bool.and_true];cases h0:Aq (B8 s 0) with
 | false =>
   rw[Bool.and_false];cases hn:Bq s s.size with
   | false=>rfl
   | true =>
     have:=r0L s 1 s.size h1 hn;simp[Bq,chB,h0] at this
 | true =>
   rw[Bool.and_true,Bool.eq_iff_iff,Mg s h0 s.size (Nat.le_refl _),beq_iff_eq,t0O]
end Go.Proofs.Sv
end
section
namespace Go.Proofs.YtphnknndgfgepaaGreatDoor
open Go Go.Proofs Go.Proofs.Sv Go.Proofs.Xv Go.Proofs.Xl Go.Proofs.Xd
theorem m0{ρ:Type}{V:Prop}[Decidable V]{e:Option ρ}{P:ρ->Prop}(hV:V)(h:∃r,e=some r/\P r):∃r,gd V e=some r/\P r:=by rw[gP hV]; exact h
theorem M8{σ ρ:Type}{F:(σ->Option ρ)->σ->Option ρ}(μ:σ->Nat)(I:σ->Prop){P:ρ->Prop}(hF:∀g s,I s->(∀s',I s'->μ s'<μ s->∃r,g s'=some r/\P r)->∃r,F g s=some r/\P r){s:σ}(hI:I s)(hμ:μ s<=18446744073709551616):∃r,lp F s=some r/\P r:=by
 have key:∀n s,I s->μ s<n->∃r,itF F n s=some r/\P r:=by
  intro n
  induction n with
  | zero=>intro s _ h; omega
  | succ n ih =>
    intro s hI h;exact hF (itF F n) s hI fun s' hI' h'=>ih s' hI' (by omega)
 exact key big s hI (by unfold big; omega)
def Sd(s:l8):Prop:=sd s/\s.1.length<=9223372036854775807/\∀b∈s.1,0<=b/\b<=255
theorem Sd.sd{s:l8}(h:Sd s):YtphnknndgfgepaaGreatDoor.sd s:=h.1
theorem C0{s:l8}{n:Int}(h:Sd s)(hn:n<=9223372036854775807):∃v s',u88 s n=some (v,s')/\Sd s'/\0<=v/\(1<=n->v<n)/\(n<=1->v=0):=by
 obtain⟨⟨h1,h2,h3⟩,h4,h5⟩:=h;have hM:∀x:Int,0<=x->0<=x.tmod 2147483647/\x.tmod 2147483647<2147483647:=fun x hx=>⟨Int.tmod_nonneg _ hx,Int.tmod_lt_of_pos x (by omega)⟩;unfold u88;by_cases c1:n<=1
 ·rw[if_pos (decide_eq_true c1)];exact⟨0,_,rfl,⟨⟨h1,h2,h3⟩,h4,h5⟩,by omega,by omega,fun _=>rfl⟩
 ·rw[if_neg (by simpa using c1)];by_cases c2:s.2.1 < (s.1.length:Int)
  ·rw[if_pos (decide_eq_true c2)];have hb:0<=s.1.getD s.2.1.toNat 0/\s.1.getD s.2.1.toNat 0<=255:=by
    have hlt:s.2.1.toNat<s.1.length:=by omega
    rw[gq,List.getElem?_eq_getElem hlt];exact h5 _ (List.getElem_mem hlt)
   rw[gP ⟨⟨h1,c2⟩,trivial,trivial⟩,gP ⟨oo,trivial⟩];by_cases c3:n<=256
   ·rw[if_pos (decide_eq_true c3),gP ⟨by omega,trivial⟩];exact⟨_,_,rfl,⟨⟨by simp only; omega,h2,h3⟩,h4,h5⟩,Int.tmod_nonneg _ hb.1,fun _=>Int.tmod_lt_of_pos _ (by omega),fun h=>(c1 h).elim⟩
   ·rw[if_neg (by simpa using c3),gP ⟨oo,oo,oo,by omega,trivial⟩,lE,gP ⟨by omega,trivial⟩];have hx:=hM (s.2.2*48271+s.1.getD s.2.1.toNat 0+1) (by omega);exact⟨_,_,rfl,⟨⟨by simp only; omega,hx.1,hx.2⟩,h4,h5⟩,Int.tmod_nonneg _ hx.1,fun _=>Int.tmod_lt_of_pos _ (by omega),fun h=>(c1 h).elim⟩
  ·rw[if_neg (by simpa using c2),gP ⟨oo,oo,by omega,trivial⟩,gP ⟨by omega,by omega,trivial⟩];have hx:=hM (s.2.2*48271+11) (by omega);exact⟨_,_,rfl,⟨⟨h1,hx.1,hx.2⟩,h4,h5⟩,Int.tmod_nonneg _ (Int.tdiv_nonneg hx.1 (by omega)),fun _=>Int.tmod_lt_of_pos _ (by omega),fun h=>(c1 h).elim⟩
theorem Ng{s:l8}{n:Int}(h:Sd s)(h1:1<=n)(h2:n<=1000):∃r,y0C s n=some r/\Sd r.2/\1<=r.1.length/\r.1.length<=3:=by
 obtain⟨v0,s0,e0,hs0,a0,b0,_⟩:=C0 (n:=n) h (by omega);obtain⟨v1,s1,e1,hs1,a1,b1,_⟩:=C0 (n:=3) hs0 (by omega);have b0:=b0 h1;have b1:=b1 (by omega);unfold y0C;simp only[e0,e1,vS,lE,Option.isSome_some];refine m0 ⟨trivial,trivial⟩ (m0 ⟨trivial,oo,trivial⟩ ?_);refine M8 (fun x=>x.2.1.toNat) (fun x=>Sd (x.2.2.1,x.2.2.2.1,x.2.2.2.2.1)/\0<=x.1/\x.1+1001*x.2.1<=5000/\0<=x.2.1/\1<=(x.2.2.2.2.2.length:Int)+x.2.1/\(x.2.2.2.2.2.length:Int)+x.2.1<=3) ?_ ⟨hs1,by simp only; omega,by simp only; omega,by simp only; omega,by simp only[List.length_nil]; omega,by simp only[List.length_nil]; omega⟩ (by simp only; omega);rintro g ⟨x,m,c,at0,sd0,out⟩ ⟨i1,i2,i3,i4,i5,i6⟩ ih;simp only at i1 i2 i3 i4 i5 i6;unfold v0Q;dsimp only;by_cases cm:0<m
 ·obtain⟨v,s',e,hs',a,b,_⟩:=C0 (n:=n) i1 (by omega);have b:=b h1;simp only[e,vS,lE,Option.isSome_some];rw[if_pos (decide_eq_true cm)];refine m0 ⟨⟨by simp; omega,by simp; omega⟩,trivial⟩ (m0 ⟨oo,trivial,oo,trivial⟩ (m0 ⟨oo,trivial⟩ ?_));exact ih _ ⟨hs',by simp only; omega,by simp only; omega,by simp only; omega,by simp; omega,by simp; omega⟩ (by simp only; omega)
 ·rw[if_neg (by simpa using cm)];exact⟨_,rfl,i1,by simp only; omega,by simp only; omega⟩
def Yx(t:D2):Prop:=t.1.length<=3/\t.2.1.length<=3/\t.2.2.length<=9
theorem Pg{s:l8}{base:Int}(h:Sd s)(h1 : -1000<=base)(h2:base<=1000):∃r,v0W s base=some r/\Sd r.2/\Yx r.1:=by
 obtain⟨⟨x0,s0⟩,e0,hs0,a0,b0⟩:=Ng (n:=60) h (by omega) (by omega);obtain⟨⟨x1,s1⟩,e1,hs1,a1,b1⟩:=Ng (n:=40) hs0 (by omega) (by omega);simp only at hs0 a0 b0 hs1 a1 b1 e0 e1;unfold v0W;simp only[e0,e1,vS,lE,Option.isSome_some];refine m0 ⟨trivial,trivial⟩ (m0 ⟨trivial,trivial⟩ ?_);have hmul:x0.length*x1.length<=9:=Nat.mul_le_mul b0 b1;have hmi:((x0.length:Int)*(x1.length:Int))=((x0.length*x1.length:Nat):Int):=by simp
 refine M8 (fun x=>(10-x.1).toNat) (fun x=>Sd x.2.2/\0<=x.1/\x.1<=9/\(x.2.1.length:Int)=x.1/\∀y∈x.2.1,-2000<=y/\y<=2000+40*x.1) ?_ ⟨hs1,by simp only; omega,by simp only; omega,by simp,by simp⟩ (by simp only; omega);rintro g ⟨i,out,c,at0,sd0⟩ ⟨i1,i2,i3,i4,i5⟩ ih;simp only at i1 i2 i3 i4 i5;unfold v0U;dsimp only;refine m0 ⟨⟨by rw[hmi]; omega,by rw[hmi]; omega⟩,trivial⟩ ?_;rw[hmi];by_cases cm:i < ((x0.length*x1.length:Nat):Int)
 ·rw[if_pos (decide_eq_true cm)];obtain⟨v,s',e,hs',a,b,_⟩:=C0 (n:=10) i1 (by omega);have b:=b (by omega);simp only[e,vS,lE,Option.isSome_some];refine m0 ⟨trivial,oo,trivial⟩ (m0 ⟨by omega,trivial⟩ ?_);have hget:∀j:Nat,-2000<=out.getD j 0/\out.getD j 0<=2000+40*i:=fun j=>by
   rw[gq];cases hj:out[j]? with
   | none=>simp; omega
   | some y=>exact i5 y (List.mem_of_getElem? hj)
  -- the last step
  have last:∀(y:Int) (s2:l8),Sd s2 -> -2000<=y->y<=2040+40*i->∃r,k0d i out g (y,s2.1,s2.2.1,s2.2.2)=some r/\Sd r.2/\Yx r.1:=by
   intro y s2 hs2 y1 y2;unfold k0d;dsimp only;refine m0 ⟨⟨by simp; omega,by simp; omega⟩,trivial⟩ (m0 ⟨oo,trivial⟩ ?_);refine ih _ ⟨hs2,by simp only; omega,by simp only; omega,by simp; omega,fun z hz=>?_⟩ (by simp only; omega);rcases List.mem_append.1 hz with hz | hz
   ·have:=i5 z hz; simp only; omega
   ·rw[List.mem_singleton.1 hz]; simp only; omega
  have mid:∀(y:Int) (s2:l8),Sd s2 -> -2000<=y->y<=2040+40*i->∃r,k0e i out (x1,s1) g (y,s2.1,s2.2.1,s2.2.2)=some r/\Sd r.2/\Yx r.1:=by
   intro y s2 hs2 y1 y2;unfold k0e;dsimp only;obtain⟨v2,s3,e3,hs3,a3,b3,_⟩:=C0 (n:=20) hs2 (by omega);have b3:=b3 (by omega);obtain⟨c2,a2,d2⟩:=s2;simp only[e3,vS,lE,Option.isSome_some];by_cases c3:(x1.length:Int)<=i
   ·rw[if_pos (decide_eq_true c3)];have:=hget (i-(x1.length:Int)).toNat;refine m0 ⟨oo,oo,by omega,trivial,oo,trivial⟩ ?_;exact last _ s3 hs3 (by omega) (by omega)
   ·rw[if_neg (by simpa using c3)];exact last _ (c2,a2,d2) hs2 y1 y2
  by_cases c4:0<i.tmod (x1.length:Int)
  ·rw[if_pos (decide_eq_true c4)];obtain⟨v2,s3,e3,hs3,a3,b3,_⟩:=C0 (n:=20) hs' (by omega);have b3:=b3 (by omega);simp only[e3,vS,Option.isSome_some];have hi0:i≠0:=fun h=>by subst h; simp at c4
   have:=hget (i-1).toNat;refine m0 ⟨oo,oo,by omega,trivial,oo,trivial⟩ ?_;exact mid _ s3 hs3 (by omega) (by omega)
  ·rw[if_neg (by simpa using c4)];exact mid _ s' hs' (by omega) (by omega)
 ·rw[if_neg (by simpa using cm)];refine⟨_,rfl,i1,by simp only; omega,by simp only; omega,by simp only; omega⟩
theorem Rv{s:l8}{base:Int}(h:Sd s)(h1 : -1000<=base)(h2:base<=1000):∃r,t0H s base=some r/\Sd r.2/\r.1.length=2/\∀t∈r.1,Yx t:=by
 obtain⟨⟨x0,s0⟩,e0,hs0,a0⟩:=Pg h h1 h2;obtain⟨⟨x1,s1⟩,e1,hs1,a1⟩:=Pg hs0 h1 h2;simp only at hs0 a0 hs1 a1 e0 e1;unfold t0H;simp only[e0,e1,vS,lE,Option.isSome_some];refine m0 ⟨trivial,trivial⟩ (m0 ⟨trivial,trivial⟩ ⟨_,rfl,hs1,rfl,fun t ht=>?_⟩);simp only[List.mem_cons,List.not_mem_nil,or_false] at ht;rcases ht with rfl | rfl
 ·exact a0
 ·exact a1
def Sz(a:A5):Prop:=a.2.2.2.2.1.length<=2/\(∀t∈a.2.2.2.2.1,Yx t)/\a.2.2.2.2.2.length<=2/\∀t∈a.2.2.2.2.2,Yx t
theorem Xj{s:l8}{k x y z:Int}(h:Sd s):∃r,J2 s k x y z=some r/\Sd r.2/\Sz r.1:=by
 unfold J2;by_cases c:4<=k
 ·rw[if_pos (decide_eq_true c)];obtain⟨v,s',e,hs',a,b,_⟩:=C0 (n:=10) h (by omega);have b:=b (by omega);obtain⟨⟨t,s2⟩,e2,hs2,a2,b2⟩:=Rv (base:=5-v) hs' (by omega) (by omega);simp only at hs2 a2 b2 e2;simp only[e,e2,vS,lE,Option.isSome_some];refine m0 ⟨trivial,oo,trivial,trivial⟩ ⟨_,rfl,hs2,?_⟩;exact⟨by simp only; omega,b2,by simp,by simp⟩
 ·rw[if_neg (by simpa using c)];obtain⟨v,s',e,hs',a,b,_⟩:=C0 (n:=20) h (by omega);have b:=b (by omega);obtain⟨⟨t,s2⟩,e2,hs2,a2,b2⟩:=Rv (base:=5+v) hs' (by omega) (by omega);obtain⟨⟨t3,s3⟩,e3,hs3,a3,b3⟩:=Rv (base:=10) hs2 (by omega) (by omega);simp only at hs2 a2 b2 e2 hs3 a3 b3 e3;simp only[e,e2,e3,vS,lE,Option.isSome_some];refine m0 ⟨trivial,oo,trivial,trivial⟩ (m0 ⟨trivial,trivial⟩ ⟨_,rfl,hs3,?_⟩);exact⟨by simp only; omega,b2,by simp only; omega,b3⟩
theorem Qg{α:Type}{f:α->Nat}{k:Nat}:∀{xs:List α},(∀x∈xs,f x<=k)->(xs.map f).sum<=xs.length*k
 | [],_=>by simp
 | x :: r,h=>by
   have:=Qg (xs:=r) (fun y hy=>h y (by simp[hy]));have:=h x (by simp);simp only[List.map_cons,List.sum_cons,List.length_cons,Nat.add_mul];omega
theorem Ax{e:Ty}{xs:List (den e)}{m k:Nat}(hm:xs.length<=m)(h:∀x∈xs,cnt e x<=k):cnt (.sl e) xs<=m+m*k:=by
 rw[Y0];have:=Qg h;have:=Nat.mul_le_mul_right k hm;omega
theorem A8{α ρ:Type}{x:α}{f:α->Option ρ}{P:ρ->Prop}(h:∃r,f x=some r/\P r):∃r,lt x f=some r/\P r:=h
theorem Rg{t:D2}(h:Yx t):cnt y140 t<=15:=by
 obtain⟨h1,h2,h3⟩:=h;show cnt (.pr (.sl (.int .i64)) (.pr (.sl (.int .i64)) (.sl (.int .i64)))) t<=15;rw[D4,D4,b0W,b0W,b0W];omega
theorem Sg{a:A5}(h:Sz a):cnt y143 a<=64:=by
 obtain⟨h1,h2,h3,h4⟩:=h;show cnt (.pr (.int .i64) (.pr (.int .i64) (.pr (.int .i64) (.pr (.int .i64) (.pr (.sl y140) (.sl y140)))))) a<=64;have e1:=Ax (e:=y140) h1 (fun t ht=>Rg (h2 t ht));have e2:=Ax (e:=y140) h3 (fun t ht=>Rg (h4 t ht));simp only[D4,d0t];omega
theorem u0a{c:m4}{m p:Nat}(hm:m<=3)(hp:p<m)(hc:c.2.2.2.2.1.length=2 ^ m):∃r,B0B c (p:Int)=some r/\True:=by
 have key:∀m,m<4->∀p,p<m->∀j,j<8->j<2 ^ m->(j &&& 2 ^ p)=0->j+2 ^ p<2 ^ m:=by decide
 have hB:((1:Int)*(2:den i64) ^ ((p:Int)).toNat)=((2 ^ p:Nat):Int):=by
  show(1:Int)*(2:Int) ^ p=_;simp
 have h8:2 ^ p<=4:=(Nat.pow_le_pow_right (by omega) (by omega):2 ^ p<=2 ^ 2);have hm8:2 ^ m<=8:=(Nat.pow_le_pow_right (by omega) hm:2 ^ m<=2 ^ 3);have key:=key m (by omega) p hp;generalize 2 ^ p=P at key hB h8;generalize 2 ^ m=M at key hc hm8;unfold B0B;refine m0 ⟨oo,⟨oo,?_⟩,trivial⟩ ?_
 ·have e:((1:Int)*(2:Int) ^ ((p:Int)).toNat)=(P:Int):=hB;rw[e];exact oo
 refine M8 (fun x=>(9-x.2.2).toNat) (fun x=>∃j:Nat,x.2.2=(j:Int)/\j<=8) ?_ ⟨0,rfl,by omega⟩ (by simp only; omega);rintro g ⟨a,b,i⟩ ⟨j,hi,hj⟩ ih;simp only at hi;subst hi;unfold w0f;dsimp only;rw[hc];by_cases c1:(j:Int) < (M:Int)
 ·rw[if_pos (decide_eq_true c1)];generalize hBB:((1:Int)*(2:den i64) ^ ((p:Int)).toNat)=B;rw[hB] at hBB;subst hBB;refine m0 ⟨oo,trivial⟩ ?_;have nx:∀a b,∃r,k0i (j:Int) g (a,b)=some r/\True:=fun a b=>by
   unfold k0i;dsimp only;exact m0 ⟨oo,trivial⟩ (ih _ ⟨j+1,by simp only; omega,by omega⟩ (by simp only; omega))
  by_cases c2:(j &&& P)=0
  ·have:=key j (by omega) (by omega) c2;rw[if_neg (by simp only[Int.toNat_natCast,c2]; simp)];refine m0 ⟨fun _=>oo,fun _=>oo,fun _=>oo,trivial⟩ (m0 ⟨fun _=>oo,fun _=>oo,fun _=>oo,trivial⟩ ?_);exact nx _ _
  ·rw[if_pos (by simp only[Int.toNat_natCast]; simp only[bne_iff_ne,ne_eq]; omega)];exact nx _ _
 ·rw[if_neg (by simpa using c1)];unfold q0C;dsimp only
  repeat' split
  all_goals exact⟨_,rfl,trivial⟩
def Yj(c:m4):Prop:=cnt y163 c<=300
theorem u0G:∀k:Nat,(([ByteArray.mk #[97],ByteArray.mk #[98],ByteArray.mk #[99],ByteArray.mk #[100]]:List ByteArray).getD k (d6 Ty.str)).size<=1
 | 0 | 1 | 2 | 3=>by decide
 | n+4=>by
   simp[d6];exact Nat.zero_le _
theorem v0p{s:l8}{nm:ByteArray}{tr:List Int}{k:Nat}{pins:List I2}{v1 v2:Int}{s1 s2:l8}(hn:nm.size<=8)(hk3:k<=3)(ht:tr.length=2 ^ k)(hp:pins.length=k)(i1:Sd s)(i2:∀p∈pins,cnt y217 p<=3):∃r,n0j nm tr (v1,s1) (v2,s2) (pins,s.1,s.2.1,s.2.2)=some r/\Sd r.2/\Yj r.1:=by
 have hm8:2 ^ k<=8:=(Nat.pow_le_pow_right (by omega) hk3:2 ^ k<=2 ^ 3);unfold n0j;refine m0 ⟨⟨by simp; omega,by simp; omega⟩,trivial⟩ ?_;refine A8 ?_;dsimp only;have hpin:cnt (.sl y217) (pins++[(ByteArray.mk #[(121:UInt8)],(2:Int),(0:Int),false)])<=4+4*3:=Ax (by simp; omega) (fun p hp'=>by
  rcases List.mem_append.1 hp' with hp' | hp'
  ·exact i2 p hp'
  ·rw[List.mem_singleton.1 hp'];show cnt (.pr .str (.pr (.int .i64) (.pr (.int .i64) .bool))) _<=3;simp only[D4,d0t,j0V,d0T];decide)
 refine M8 (fun x=>(5-x.1).toNat) (fun x=>∃j:Nat,x.1=(j:Int)/\j<=k/\x.2.1.length<=j/\Sd x.2.2/\∀q∈x.2.1,Sz q) ?_ ⟨0,rfl,by omega,by simp,i1,by simp⟩ (by simp only; omega);rintro g2 ⟨i',arcs,c',at',sd'⟩ ⟨j,hj,hjk,j1,j2,j3⟩ ih2;simp only at hj j1 j2 j3;subst hj;unfold w0m;dsimp only;rw[hp];by_cases c2:(j:Int) < (k:Int)
 ·rw[if_pos (decide_eq_true c2)];obtain⟨w,ew,-⟩:=u0a (c:=(nm,(1:Int),pins++[(ByteArray.mk #[(121:UInt8)],(2:Int),(0:Int),false)],[],tr,v1,v2)) hk3 (p:=j) (m:=k) (by omega) ht;rw[ew];refine m0 ⟨rfl,trivial⟩ (A8 ?_);rw[vS];have nx:∀(as2:List A5) (s3:l8),Sd s3->as2.length<=j+1->(∀q∈as2,Sz q)->∃r,k0l (j:Int) g2 (as2,s3.1,s3.2.1,s3.2.2)=some r/\Sd r.2/\Yj r.1:=fun as2 s3 h3 hl hq=>by
   unfold k0l;dsimp only;exact m0 ⟨oo,trivial⟩ (ih2 _ ⟨j+1,by simp only; omega,by omega,hl,h3,hq⟩ (by simp only; omega))
  by_cases c3:w != 0
  ·rw[if_pos c3];obtain⟨⟨q,s4⟩,e4,hs4,q4⟩:=Xj (k:=1) (x:=(j:Int)) (y:=(k:Int)) (z:=w) j2;simp only at hs4 q4 e4;rw[e4];refine m0 ⟨rfl,⟨by simp; omega,by simp; omega⟩,trivial⟩ (A8 (nx _ s4 hs4 (by simp; omega) fun q' hq'=>?_));rcases List.mem_append.1 hq' with hq' | hq'
   ·exact j3 q' hq'
   ·rw[List.mem_singleton.1 hq']; exact q4
  ·rw[if_neg c3];exact nx arcs (c',at',sd') j2 (by omega) j3
 ·rw[if_neg (by simpa using c2)];unfold q0E;refine⟨_,rfl,j2,?_⟩;have ha:cnt (.sl y143) arcs<=4+4*64:=Ax (by omega) (fun q hq=>Sg (j3 q hq));show cnt (.pr .str (.pr (.int .i64) (.pr (.sl y217) (.pr (.sl y143) (.pr (.sl (.int .i64)) (.pr (.int .i64) (.int .i64))))))) _<=300;simp only[D4,d0t,d0T,b0W];omega
theorem Zj{s:l8}{nm:ByteArray}{tr:List Int}{m:Nat}(h:Sd s)(hn:nm.size<=8)(hm:1<=m/\m<=3)(ht:tr.length=2 ^ m):∃r,l9 s nm tr=some r/\Sd r.2/\Yj r.1:=by
 have hm8:2 ^ m<=8:=(Nat.pow_le_pow_right (by omega) hm.2:2 ^ m<=2 ^ 3);obtain⟨v1,s1,e1,hs1,-,-,-⟩:=C0 (n:=50) h (by omega);obtain⟨v2,s2,e2,hs2,-,-,-⟩:=C0 (n:=80) hs1 (by omega);unfold l9;refine A8 ?_;dsimp only;simp only[e1,e2,vS,Option.isSome_some];refine m0 ⟨trivial,trivial,trivial⟩ (A8 ?_);dsimp only;refine M8 (fun x=>(16-x.1).toNat) (fun x=>∃k,k<=m/\x.1=((2 ^ k:Nat):Int)/\x.2.1.length=k/\Sd x.2.2/\∀p∈x.2.1,cnt y217 p<=3) ?_ ⟨0,by omega,rfl,rfl,hs2,by simp⟩ (by simp only; omega);rintro g ⟨i,pins,c,at0,sd0⟩ ⟨k,hk,hi,hp,i1,i2⟩ ih;simp only at hi hp i1 i2;unfold w0n;dsimp only;subst hi;rw[ht];have hk8:2 ^ k<=2 ^ m:=Nat.pow_le_pow_right (by omega) hk;have hpos:0<2 ^ k:=Nat.pos_of_ne_zero (by simp);have hsuc:2 ^ (k+1)=2*2 ^ k:=by rw[Nat.pow_succ]; omega
 have hkm0:k<m->2 ^ (k+1)<=2 ^ m:=fun h=>Nat.pow_le_pow_right (by omega) h;have hEk:((2 ^ k:Nat):Int)=((2 ^ k:Nat):Int):=rfl;generalize hK2:2 ^ k=K2 at hk8 hpos hsuc ⊢;generalize hM2:2 ^ m=M2 at hk8 hm8 hkm0 ⊢;by_cases c1:(K2:Int) < (M2:Int)
 ·rw[if_pos (decide_eq_true c1)];have hkm:k<m:=by
   rcases Nat.lt_or_ge k m with h' | h'
   ·exact h'
   ·have:k=m:=by omega
    rw[this,hM2] at hK2;omega
  obtain⟨v,s',e,hs',a,b,-⟩:=C0 (n:=9) i1 (by omega);have b:=b (by omega);simp only[e,vS,lE,Option.isSome_some];refine m0 ⟨⟨by omega,by simp; omega⟩,by simp; omega,trivial,oo,⟨by simp; omega,by simp; omega⟩,trivial⟩ (m0 ⟨oo,trivial⟩ ?_);refine ih _ ⟨k+1,by omega,by simp only; rw[hsuc]; omega,by simp[hp],hs',fun p hp'=>?_⟩ (by simp only; omega);rcases List.mem_append.1 hp' with hp' | hp'
  ·exact i2 p hp'
  ·rw[List.mem_singleton.1 hp'];show cnt (.pr .str (.pr (.int .i64) (.pr (.int .i64) .bool))) _<=3;simp only[D4,d0t,j0V,d0T];have:=u0G ((pins.length:Int)).toNat;omega
 ·rw[if_neg (by simpa using c1)];have hkm:k=m:=by
   rcases Nat.lt_or_ge k m with h' | h'
   ·have:=hkm0 h';omega
   ·omega
  subst hkm;exact v0p (s:=(c,at0,sd0)) hn hm.2 (by rw[ht,hM2]) hp i1 i2
theorem Tv{s:l8}{nm:ByteArray}{k e:Int}(h:Sd s)(hn:nm.size<=8):∃r,t0L s nm k e=some r/\Sd r.2/\Yj (r.1.1,r.1.2.1,r.1.2.2.1,r.1.2.2.2.1,[],r.1.2.2.2.2):=by
 obtain⟨v1,s1,e1,hs1,-,-,-⟩:=C0 (n:=50) h (by omega);obtain⟨v2,s2,e2,hs2,-,-,-⟩:=C0 (n:=80) hs1 (by omega);obtain⟨v3,s3,e3,hs3,a3,b3,-⟩:=C0 (n:=9) hs2 (by omega);obtain⟨v4,s4,e4,hs4,a4,b4,-⟩:=C0 (n:=9) hs3 (by omega);have b3:=b3 (by omega);have b4:=b4 (by omega);obtain⟨⟨q5,s5⟩,e5,hs5,a5⟩:=Xj (k:=e) (x:=1) (y:=2) (z:=0) hs4;simp only at hs5 a5 e5;obtain⟨⟨q6,s6⟩,e6,hs6,a6⟩:=Xj (k:=4) (x:=1) (y:=0) (z:=0) hs5;simp only at hs6 a6 e6;obtain⟨⟨q7,s7⟩,e7,hs7,a7⟩:=Xj (k:=5) (x:=1) (y:=0) (z:=0) hs6;simp only at hs7 a7 e7;obtain⟨⟨q8,s8⟩,e8,hs8,a8⟩:=Xj (k:=1) (x:=0) (y:=2) (z:=1) hs7;simp only at hs8 a8 e8;unfold t0L;simp only[lE,e1,e2,e3,e4,e5,e6,e7,e8,vS,Option.isSome_some];refine m0 ⟨trivial,trivial,trivial⟩ (m0 ⟨trivial,oo,trivial,oo,trivial⟩ (m0 ⟨trivial,trivial,trivial,trivial⟩ ?_));have fin:∀(as2:List A5) (s9:l8),Sd s9->as2.length<=4->(∀q∈as2,Sz q)->∃r,k0k nm k [(ByteArray.mk #[(100:UInt8)],(1:Int),(1:Int)+v3,false),(ByteArray.mk #[(99:UInt8),(107:UInt8)],(1:Int),(1:Int)+v4,true),(ByteArray.mk #[(113:UInt8)],(2:Int),(0:Int),false)] (v1,s1) (v2,s2) (as2,s9.1,s9.2.1,s9.2.2)=some r/\Sd r.2/\Yj (r.1.1,r.1.2.1,r.1.2.2.1,r.1.2.2.2.1,[],r.1.2.2.2.2):=fun as2 s9 h9 hl hq=>by
  unfold k0k;refine⟨_,rfl,h9,?_⟩;have ha:cnt (.sl y143) as2<=4+4*64:=Ax hl (fun q hq'=>Sg (hq q hq'));show cnt (.pr .str (.pr (.int .i64) (.pr (.sl y217) (.pr (.sl y143) (.pr (.sl (.int .i64)) (.pr (.int .i64) (.int .i64))))))) _<=300;have hp:∀x y:Int,cnt (.sl y217) [(ByteArray.mk #[(100:UInt8)],(1:Int),x,false),(ByteArray.mk #[(99:UInt8),(107:UInt8)],(1:Int),y,true),(ByteArray.mk #[(113:UInt8)],(2:Int),(0:Int),false)]<=10:=fun x y=>by
   rw[Y0];simp only[List.map_cons,List.map_nil,List.sum_cons,List.sum_nil,List.length_cons,List.length_nil];show _+(cnt (.pr .str (.pr (.int .i64) (.pr (.int .i64) .bool))) _+(cnt (.pr .str (.pr (.int .i64) (.pr (.int .i64) .bool))) _+(cnt (.pr .str (.pr (.int .i64) (.pr (.int .i64) .bool))) _+0)))<=10;simp only[D4,d0t,j0V,d0T];decide
  have:=hp (1+v3) (1+v4);simp only[D4,d0t,d0T,b0W,List.length_nil];omega
 have h3:∀q∈[q5,q6,q7],Sz q:=fun q hq=>by
  simp only[List.mem_cons,List.not_mem_nil,or_false] at hq;rcases hq with rfl | rfl | rfl
  ·exact a5
  ·exact a6
  ·exact a7
 by_cases c:(k==3)=true
 ·rw[if_pos c];refine m0 ⟨trivial,⟨by simp,by simp⟩,trivial⟩ (fin _ s8 hs8 (by simp) fun q hq=>?_);rcases List.mem_append.1 hq with hq | hq
  ·exact h3 q hq
  ·rw[List.mem_singleton.1 hq]; exact a8
 ·rw[if_neg c];exact fin _ s7 hs7 (by simp) h3
theorem C0t{s:l8}(h:Sd s):∃r,B0L s=some r/\Sd r.2/\cnt (.sl y163) r.1<=2408:=by
 obtain⟨⟨c1,s1⟩,e1,h1,p1⟩:=Zj (nm:=ByteArray.mk #[105,110,118]) (tr:=[1,0]) (m:=1) h (by decide) (by decide) rfl;simp only at h1 p1 e1;obtain⟨⟨c2,s2⟩,e2,h2,p2⟩:=Zj (nm:=ByteArray.mk #[98,117,102]) (tr:=[0,1]) (m:=1) h1 (by decide) (by decide) rfl;simp only at h2 p2 e2;obtain⟨⟨c3,s3⟩,e3,h3,p3⟩:=Zj (nm:=ByteArray.mk #[110,97,110,100]) (tr:=[1,1,1,0]) (m:=2) h2 (by decide) (by decide) rfl;simp only at h3 p3 e3;obtain⟨⟨c4,s4⟩,e4,h4,p4⟩:=Zj (nm:=ByteArray.mk #[120,111,114]) (tr:=[0,1,1,0]) (m:=2) h3 (by decide) (by decide) rfl;simp only at h4 p4 e4;obtain⟨⟨c5,s5⟩,e5,h5,p5⟩:=Zj (nm:=ByteArray.mk #[109,117,120]) (tr:=[0,1,0,1,0,0,1,1]) (m:=3) h4 (by decide) (by decide) rfl;simp only at h5 p5 e5;obtain⟨⟨c6,s6⟩,e6,h6,p6⟩:=Tv (nm:=ByteArray.mk #[102,108,111,112]) (k:=2) (e:=2) h5 (by decide);simp only at h6 p6 e6;obtain⟨⟨c7,s7⟩,e7,h7,p7⟩:=Tv (nm:=ByteArray.mk #[102,108,111,112,110]) (k:=2) (e:=3) h6 (by decide);simp only at h7 p7 e7;obtain⟨⟨c8,s8⟩,e8,h8,p8⟩:=Tv (nm:=ByteArray.mk #[108,97,116,99,104]) (k:=3) (e:=2) h7 (by decide);simp only at h8 p8 e8;unfold B0L;simp only[lE,e1,e2,e3,e4,e5,e6,e7,e8,vS,Option.isSome_some];refine m0 ⟨trivial,trivial,trivial⟩ (m0 ⟨trivial,trivial,trivial⟩ (m0 ⟨trivial,trivial,trivial⟩ (m0 ⟨trivial,trivial,trivial⟩ (m0 ⟨trivial,trivial,trivial⟩ (m0 ⟨trivial,trivial⟩ (m0 ⟨trivial,trivial⟩ (m0 ⟨trivial,trivial⟩ ⟨_,rfl,h8,?_⟩)))))));refine Nat.le_trans (Ax (m:=8) (k:=300) (by simp) fun c hc=>?_) (by decide);simp only[List.mem_cons,List.not_mem_nil,or_false] at hc;rcases hc with rfl | rfl | rfl | rfl | rfl | rfl | rfl | rfl
 ·exact p1
 ·exact p2
 ·exact p3
 ·exact p4
 ·exact p5
 ·exact p6
 ·exact p7
 ·exact p8
theorem L0{e:Option Unit}(h:∃r,e=some r/\True):e=some ():=by
 obtain⟨_,h,_⟩:=h;exact h
theorem Bx{s:l8}(hw:wf l7 s)(h:sd s):Sd s:=⟨h,hw.1.1,fun b hb=>hw.1.2 b hb⟩
theorem Tg:∀(m:Nat) (n:Int),0<=n->n<10 ^ m->1<=m/\m<=40->∃r,p0g m n=some r/\r.size<=m
 | 0,n,h0,h1,h2=>by omega
 | m+1,n,h0,h1,hm=>by
   show ∃r,t0K (p0g m) n=some r/\r.size<=m+1;unfold t0K;rw[if_neg (by simp; omega)];have h2:0<=n.tmod 10/\n.tmod 10<10:=⟨Int.tmod_nonneg _ h0,Int.tmod_lt_of_pos _ (by omega)⟩;by_cases c:n<10
   ·rw[if_pos (decide_eq_true c)];refine m0 ⟨oo,trivial,by simp,trivial⟩ ⟨_,rfl,?_⟩;rw[strOfNums_size];simp
   ·rw[if_neg (by simpa using c)];have h3:n.tdiv 10<10 ^ m:=by
     rw[Int.tdiv_eq_ediv_of_nonneg h0];have:(10:Int) ^ (m+1)=10*10 ^ m:=by rw[Int.pow_succ]; omega
     omega
    have hm1:1<=m:=by
     rcases Nat.eq_zero_or_pos m with h | h
     ·subst h; simp at h1; omega
     ·exact h
    obtain⟨r,e,hr⟩:=Tg m (n.tdiv 10) (Int.tdiv_nonneg h0 (by omega)) h3 (by omega);rw[e];refine m0 ⟨by omega,rfl,by omega,oo,trivial,by simp,?_,trivial⟩ (A8 ⟨_,rfl,?_⟩)
    ·rw[vS,strOfNums_size]; simp; omega
    ·rw[vS,ByteArray.size_append,strOfNums_size]; simp; omega
theorem Ug{n:Int}(h0:0<=n)(h1:n<1000):∃r,t0j n=some r/\r.size<=25 :=
 Tg 25 n h0 (by have:(1000:Int)<10 ^ 25:=by decide
                omega) (by omega)
theorem Uv{xs:List Int}(h:xs.length<=1000):J9 xs=some xs:=by
 unfold J9;rw[gP ⟨oo,trivial⟩];rfl
def Vv(d:Y31):Prop:=(d.1.length<=6/\∀i∈d.1,i.2.2.length<=4)/\d.2.2.length<=5
theorem z0D{d:Y31}(h:Vv d):∃r,V5 d=some r/\r.length<=29:=by
 obtain⟨⟨h1,h2⟩,h3⟩:=h;unfold V5;refine M8 (fun x=>(7-x.1).toNat) (fun x=>0<=x.1/\x.1<=6/\(x.2.length:Int)<=4*x.1) ?_ ⟨by simp only; omega,by simp only; omega,by simp⟩ (by simp only; omega);rintro g ⟨i,out⟩ ⟨i1,i2,i3⟩ ih;simp only at i1 i2 i3;unfold q0Z;dsimp only;by_cases c:i < (d.1.length:Int)
 ·rw[if_pos (decide_eq_true c)];refine m0 ⟨⟨i1,c⟩,trivial⟩ (A8 ?_);have hlt:i.toNat<d.1.length:=by omega
  have hn:(d.1.getD i.toNat (d6 y165)).2.2.length<=4:=by
   rw[gq,List.getElem?_eq_getElem hlt];exact h2 _ (List.getElem_mem hlt)
  generalize d.1.getD i.toNat (d6 y165)=x at hn;refine M8 (fun x=>(5-x.1).toNat) (fun y=>0<=y.1/\y.1<=4/\(y.2.length:Int)<=4*i+y.1) ?_ ⟨by simp only; omega,by simp only; omega,by simp only; omega⟩ (by simp only; omega);rintro g2 ⟨k,out2⟩ ⟨k1,k2,k3⟩ ih2;simp only at k1 k2 k3;unfold q0Y;dsimp only;by_cases c2:k < (x.2.2.length:Int)
  ·rw[if_pos (decide_eq_true c2)];refine m0 ⟨⟨k1,c2⟩,oo,⟨by simp; omega,by simp; omega⟩,trivial⟩ (A8 ?_);dsimp only;exact m0 ⟨oo,trivial⟩ (ih2 _ ⟨by simp only; omega,by simp only; omega,by simp; omega⟩ (by simp only; omega))
  ·rw[if_neg (by simpa using c2)];unfold n0w;exact m0 ⟨oo,trivial⟩ (ih _ ⟨by simp only; omega,by simp only; omega,by simp only; omega⟩ (by simp only; omega))
 ·rw[if_neg (by simpa using c)];unfold i0x;refine M8 (fun x=>(6-x.1).toNat) (fun y=>0<=y.1/\y.1<=5/\(y.2.length:Int)<=24+y.1) ?_ ⟨by simp only; omega,by simp only; omega,by simp only; omega⟩ (by simp only; omega);rintro g2 ⟨k,out2⟩ ⟨k1,k2,k3⟩ ih2;simp only at k1 k2 k3;unfold q0X;dsimp only;by_cases c2:k < (d.2.2.length:Int)
  ·rw[if_pos (decide_eq_true c2)];refine m0 ⟨⟨k1,c2⟩,⟨k1,c2⟩,⟨by simp; omega,by simp; omega⟩,trivial⟩ (A8 ?_);dsimp only;exact m0 ⟨oo,trivial⟩ (ih2 _ ⟨by simp only; omega,by simp only; omega,by simp; omega⟩ (by simp only; omega))
  ·rw[if_neg (by simpa using c2)];exact⟨_,rfl,by omega⟩
theorem B0T{d:Y31}{t:Int}(h:Vv d):∃r,u71 d t=some r/\r.length<=29:=by
 obtain⟨p,e,hp⟩:=z0D h;unfold u71;rw[e];refine m0 ⟨rfl,trivial⟩ (A8 ?_);rw[vS];refine M8 (fun x=>(30-x.1).toNat) (fun x=>0<=x.1/\x.1<=29/\(x.2.length:Int)<=x.1) ?_ ⟨by simp only; omega,by simp only; omega,by simp⟩ (by simp only; omega);rintro g ⟨i,out⟩ ⟨i1,i2,i3⟩ ih;simp only at i1 i2 i3;unfold y0p;dsimp only;by_cases c:i < (p.length:Int)
 ·rw[if_pos (decide_eq_true c)];refine m0 ⟨⟨i1,c⟩,by omega,fun _=>⟨i1,c⟩,fun _=>by omega,trivial⟩ ?_;have nx:∀o2:List Int,(o2.length:Int)<=i+1->∃r,o0Y i g o2=some r/\r.length<=29:=fun o2 ho=>by
   unfold o0Y;exact m0 ⟨oo,trivial⟩ (ih _ ⟨by simp only; omega,by simp only; omega,ho⟩ (by simp only; omega))
  split
  ·exact m0 ⟨⟨by simp; omega,by simp; omega⟩,trivial⟩ (nx _ (by simp; omega))
  ·exact nx _ (by omega)
 ·rw[if_neg (by simpa using c)];exact⟨_,rfl,by omega⟩
section
variable [Alw]
theorem y0e{s:l8}{n:Int}(h:Sd s)(h0:0<=n)(h1:n<=40):D0t s n=some ():=by
 refine L0 ?_;obtain⟨v0,s0,e0,hs0,a0,b0,-⟩:=C0 (n:=6) h (by omega);obtain⟨v1,s1,e1,hs1,a1,b1,-⟩:=C0 (n:=4) hs0 (by omega);have b1:=b1 (by omega);have el:B0E n v0=some ([-1],[0],[v0],List.replicate n.toNat 0):=by
  unfold B0E;rw[gP ⟨⟨h0,rfl,by omega,by omega⟩,trivial⟩]
 unfold D0t;simp only[e0,el,vS,Option.isSome_some];refine m0 ⟨trivial,trivial,trivial⟩ (A8 ?_);dsimp only;simp only[e1,vS,Option.isSome_some];refine m0 ⟨trivial,trivial⟩ (A8 ?_);refine M8 (fun x=>x.1.toNat) (fun x=>Sd (x.2.1,x.2.2.1,x.2.2.2.1)/\0<=x.1/\(1<=x.2.2.2.2.1.length/\(x.2.2.2.2.1.length:Int)+x.1<=4)/\(1<=x.2.2.2.2.2.1.length/\(x.2.2.2.2.2.1.length:Int)+x.1<=4)/\1<=x.2.2.2.2.2.2.length/\(x.2.2.2.2.2.2.length:Int)+x.1<=4) ?_ ⟨hs1,by simp only; omega,⟨by simp,by simp; omega⟩,⟨by simp,by simp; omega⟩,by simp,by simp; omega⟩ (by simp only; omega);rintro g ⟨m,c,at0,sd0,P,R,C⟩ ⟨i1,i2,⟨i3,i4⟩,⟨i5,i6⟩,i7,i8⟩ ih;simp only at i1 i2 i3 i4 i5 i6 i7 i8;unfold w0E;dsimp only;by_cases cm:0<m
 ·rw[if_pos (decide_eq_true cm)];obtain⟨v2,s2,e2,hs2,-,-,-⟩:=C0 (n:=(P.length:Int)) i1 (by omega);obtain⟨v3,s3,e3,hs3,-,-,-⟩:=C0 (n:=400) hs2 (by omega);obtain⟨v4,s4,e4,hs4,-,-,-⟩:=C0 (n:=8) hs3 (by omega);rw[Uv (xs:=P) (by omega),Uv (xs:=R) (by omega),Uv (xs:=C) (by omega)];simp only[e2,e3,e4,vS,Option.isSome_some];refine m0 ⟨trivial,trivial,⟨by simp; omega,by simp; omega⟩,trivial,trivial,⟨by simp; omega,by simp; omega⟩,trivial,trivial,⟨by simp; omega,by simp; omega⟩,trivial⟩ (A8 ?_);dsimp only;exact m0 ⟨oo,trivial⟩ (ih _ ⟨hs4,by simp only; omega,⟨by simp,by simp; omega⟩,⟨by simp,by simp; omega⟩,by simp,by simp; omega⟩ (by simp only; omega))
 ·rw[if_neg (by simpa using cm)];unfold q0G;refine M8 (fun x=>(41-x.1).toNat) (fun x=>Sd (x.2.1,x.2.2.1,x.2.2.2.1)/\0<=x.1/\x.1<=40/\x.2.2.2.2.length=n.toNat) ?_ ⟨i1,by simp only; omega,by simp only; omega,by simp⟩ (by simp only; omega);rintro g2 ⟨i,c',at',sd',sk⟩ ⟨k1,k2,k3,k4⟩ ih2;simp only at k1 k2 k3 k4;unfold w0D;dsimp only;by_cases c2:i < (sk.length:Int)
  ·rw[if_pos (decide_eq_true c2)];obtain⟨v5,s5,e5,hs5,-,-,-⟩:=C0 (n:=(P.length:Int)) k1 (by omega);simp only[e5,vS,Option.isSome_some];refine m0 ⟨trivial,⟨k2,c2⟩,by omega,trivial⟩ (A8 ?_);exact m0 ⟨oo,trivial⟩ (ih2 _ ⟨hs5,by simp only; omega,by simp only; omega,by simp[k4]⟩ (by simp only; omega))
  ·rw[if_neg (by simpa using c2)];unfold q0F;refine m0 ⟨k1.1,i3,i5,i7,?_⟩ ⟨_,rfl,trivial⟩;show cnt (.pr (.sl (.int .i64)) (.pr (.sl (.int .i64)) (.pr (.sl (.int .i64)) (.sl (.int .i64))))) _<=60;simp only[D4,b0W];omega
end
theorem Vg{e:Ty}(he:∀x y,shp e x y->cnt e y=cnt e x):∀{xs ys:List (den e)},AllS (shp e) xs ys->(ys.map (cnt e)).sum=(xs.map (cnt e)).sum
 | [],_,h=>by rw[show _=[] from h]
 | x :: r,_,⟨y,r',e1,h1,h2⟩=>by
   subst e1;simp only[List.map_cons,List.sum_cons];rw[he x y h1,Vg he h2]
theorem Zx:∀(t:Ty) (x y:den t),shp t x y->cnt t y=cnt t x
 | .int _,_,_,_=>by simp only[cnt]
 | .bool,_,_,h=>by rw[show _=_ from h]
 | .str,_,_,h=>by rw[show _=_ from h]
 | .sl e,x,y,h=>by
   rw[Y0,Y0,AllS.len h,Vg (Zx e) h]
 | .pt e,x,y,h=>by
   show cnt e y=cnt e x;exact Zx e x y h
 | .pr a b,x,y,h=>by
   rw[D4,D4,Zx a x.1 y.1 h.1,Zx b x.2 y.2 h.2]
theorem V7[Alw]{ζ:Type}{p:ζ->Prop}{f:ζ->Option Unit}(h:∀z,p z->f z=some ()):∃r,Alw.alp p f=some r/\True:=⟨(),Alw.alp_u h,trivial⟩
theorem z0N:∀j:Nat,0<=([(0:Int),1,2,2,3,4,5,5,5,6,7,1]).getD j 0/\([(0:Int),1,2,2,3,4,5,5,5,6,7,1]).getD j 0<=7
 | 0 | 1 | 2 | 3 | 4 | 5 | 6 | 7 | 8 | 9 | 10 | 11=>by decide
 | n+12=>by simp
theorem C0d:∀j:Nat,j<8->2<=([(2:Int),2,3,3,4,3,3,3]).getD j 0/\([(2:Int),2,3,3,4,3,3,3]).getD j 0<=4
 | 0,_ | 1,_ | 2,_ | 3,_ | 4,_ | 5,_ | 6,_ | 7,_=>by decide
 | n+8,h=>by omega
def Cq(x:m7):Prop:=1<=x.2.2.length/\x.2.2.length<=4/\x.1.size<=26
theorem z0s{x:m7}(h:Cq x):cnt y165 x<=30:=by
 obtain⟨h1,h2,h3⟩:=h;show cnt (.pr .str (.pr (.int .i64) (.sl (.int .i64)))) x<=30;rw[D4,D4,d0T,d0t,b0W];omega
theorem z0r{x y:m7}(h:shp y165 x y)(hx:Cq x):Cq y:=by
 obtain⟨h1,h2,h3⟩:=h;obtain⟨k1,k2,k3⟩:=hx;have h3:y.2.2.length=x.2.2.length:=AllS.len h3;have h1:y.1=x.1:=h1;exact⟨by omega,by omega,by rw[h1]; exact k3⟩
section
variable [Alw]
abbrev Vw:List r7:=[(ByteArray.mk #[(99:UInt8),(107:UInt8)],(1:Int),(0:Int)),(ByteArray.mk #[(97:UInt8)],(1:Int),(1:Int)),(ByteArray.mk #[(98:UInt8)],(1:Int),(2:Int))]
theorem Wg{ins:List m7}{nets:List ByteArray}{prts:List r7}{s:l8}(h:Sd s)(h1:ins.length<=6)(h2:∀x∈ins,Cq x)(h3:3<=nets.length/\nets.length<=9)(h4:∀x∈nets,x.size<=26)(h5:1<=prts.length/\prts.length<=5)(h6:∀p∈prts,p.1.size<=2) :
  ∃r,g0M ins nets (prts,s.1,s.2.1,s.2.2)=some r/\True:=by
 unfold g0M;refine m0 ⟨h.1,⟨h1,fun i hi=>(h2 i hi).2.1⟩,⟨by simp only; omega,by simp only; omega⟩,h5,?_⟩ ⟨_,rfl,trivial⟩;have e1:=Ax (e:=y165) h1 (fun x hx=>z0s (h2 x hx));have e2:=Ax (e:=.str) h3.2 (fun x hx=>(by rw[d0T]; exact h4 x hx:cnt .str x<=26));have e3:=Ax (e:=y175) h5.2 (k:=2) (fun x hx=>by
  show cnt (.pr .str (.pr (.int .i64) (.int .i64))) x<=2;rw[D4,D4,d0T,d0t,d0t];have:=h6 x hx;omega)
 show cnt (.pr (.sl y165) (.pr (.sl .str) (.sl y175))) _<=2000;rw[D4,D4];simp only at e1 e2 e3 ⊢;omega
theorem v0A{ins a b:List m7}{nets n2:List ByteArray}{p2:List r7}{s:l8}(h:Sd s)(h1:ins.length<=6)(h2:∀x∈ins,Cq x)(h3:3<=nets.length/\nets.length<=9)(h4:∀x∈nets,x.size<=26) :
  ∃r,n0m nets Vw (s.1,s.2.1,s.2.2,ins,a,b,n2,p2)=some r/\True:=by
 unfold n0m;refine m0 ⟨⟨by simp,by simp⟩,trivial⟩ (m0 ⟨oo,⟨by simp,by simp⟩,trivial⟩ (A8 ?_));dsimp only;obtain⟨v,s1,e,hs1,-,-,-⟩:=C0 (n:=2) h (by omega);obtain⟨w,s2,e2,hs2,a2,b2,-⟩:=C0 (n:=(nets.length:Int)-1) hs1 (by omega);have b2:=b2 (by omega);obtain⟨c0,at0,sd0⟩:=s;simp only[e,vS,Option.isSome_some];refine m0 ⟨trivial,trivial⟩ (A8 ?_);dsimp only;have hp:∀p∈([]++Vw++[(ByteArray.mk #[(121:UInt8)],(2:Int),(nets.length:Int)-1)]:List r7),p.1.size<=2:=fun p hp=>by
  simp only[Vw,List.nil_append,List.cons_append,List.mem_cons,List.not_mem_nil,or_false] at hp;rcases hp with rfl | rfl | rfl | rfl
  ·decide
  ·decide
  ·decide
  ·exact(by decide:(ByteArray.mk #[(121:UInt8)]).size<=2)
 split
 ·simp only[e2,vS,Option.isSome_some];refine m0 ⟨oo,trivial,oo,⟨by simp,by simp⟩,trivial⟩ (A8 ?_);dsimp only;refine Wg (s:=s2) hs2 h1 h2 h3 h4 (by simp) (fun p hp'=>?_);rcases List.mem_append.1 hp' with hp' | hp'
  ·exact hp p hp'
  ·rw[List.mem_singleton.1 hp'];exact(by decide:(ByteArray.mk #[(122:UInt8)]).size<=2)
 ·exact Wg (s:=s1) hs1 h1 h2 h3 h4 (by simp) hp
theorem v0B{ins a b:List m7}{nets n2:List ByteArray}{p2:List r7}{s:l8}{wild:Bool}(h:Sd s)(h1:ins.length<=6)(h2:∀x∈ins,Cq x)(h3:3<=nets.length/\nets.length<=9)(h4:∀x∈nets,x.size<=26) :
  ∃r,n0n wild Vw (s.1,s.2.1,s.2.2,nets,ins,a,b,n2,p2)=some r/\True:=by
 unfold n0n;refine M8 (fun x=>(7-x.1).toNat) (fun x=>Sd (x.2.1,x.2.2.1,x.2.2.2.1)/\0<=x.1/\x.1<=6/\x.2.2.2.2.1.length<=6/\∀y∈x.2.2.2.2.1,Cq y) ?_ ⟨h,by simp only; omega,by simp only; omega,h1,h2⟩ (by simp only; omega);rintro g ⟨i,c,at0,sd0,is2,a2,b2,n3,p3⟩ ⟨i1,i2,i3,i4,i5⟩ ih;simp only at i1 i2 i3 i4 i5;unfold w0F;dsimp only;by_cases cm:i < (is2.length:Int)
 ·rw[if_pos (decide_eq_true cm)];obtain⟨v,s1,e,hs1,-,-,-⟩:=C0 (n:=4) i1 (by omega);obtain⟨w,s2,e2,hs2,wa,wb,-⟩:=C0 (n:=(nets.length:Int)-1) hs1 (by omega);have wb:=wb (by omega);have hlt:i.toNat<is2.length:=by omega
  simp only[e,vS,Option.isSome_some];refine m0 ⟨trivial,fun _=>⟨i2,cm⟩,fun _=>hlt,fun _=>⟨i2,cm⟩,fun _=>hlt,trivial⟩ (A8 ?_);dsimp only;have nx:∀(s3:l8) (is3 a3 b3:List m7) (n4:List ByteArray) (p4:List r7),Sd s3->is3.length<=6->(∀y∈is3,Cq y)->∃r,k0r i g (s3.1,s3.2.1,s3.2.2,is3,a3,b3,n4,p4)=some r/\True:=fun s3 is3 a3 b3 n4 p4 q1 q2 q3=>by
   unfold k0r;exact m0 ⟨oo,trivial⟩ (ih _ ⟨q1,by simp only; omega,by simp only; omega,q2,q3⟩ (by simp only; omega))
  split
  ·simp only[e2,vS,Option.isSome_some];have hin:Cq (is2.getD i.toNat (d6 y165)):=by
    rw[gq,List.getElem?_eq_getElem hlt];exact i5 _ (List.getElem_mem hlt)
   have:=hin.1;refine m0 ⟨⟨i2,cm⟩,hlt,oo,trivial,oo,oo,trivial⟩ (V7 ?_);rintro⟨v132,v133,v134,v135,v136,v137,v138,v139,v140⟩ ⟨-,-,k3,-,k5,-⟩;dsimp only;refine L0 (m0 trivial ?_);have hw:wf (.sl (.int .u8)) v134:=k3.2 ⟨hs2.2.1,fun b hb=>hs2.2.2 b hb⟩;have hl:v136.length=is2.length:=AllS.len k5;refine nx (v134,s2.2.1,s2.2.2) v136 v137 v138 v139 v140 ⟨hs2.1,hw.1,fun b hb=>hw.2 b hb⟩ (by omega) ?_;exact AllS.all (p:=Cq) (q:=Cq) (fun x y hxy hx=>z0r hxy hx) k5 i5
  ·exact nx s1 is2 a2 b2 n3 p3 hs1 i4 i5
 ·rw[if_neg (by simpa using cm)];exact v0A (s:=(c,at0,sd0)) i1 i4 i5 h3 h4
theorem C0F{s:l8}{most:Int}{wild:Bool}(h:Sd s)(h0:2<=most)(h1:most<=6):D0u s most wild=some ():=by
 refine L0 ?_;unfold D0u;refine A8 ?_;refine A8 ?_;obtain⟨v,s0,e0,hs0,a0,b0,-⟩:=C0 (n:=most-1) h (by omega);have b0:=b0 (by omega);simp only[e0,vS,Option.isSome_some];refine m0 ⟨⟨by simp,by simp⟩,trivial⟩ (m0 ⟨oo,trivial,oo,trivial⟩ (A8 ?_));refine M8 (fun x=>x.1.toNat) (fun x=>Sd (x.2.1,x.2.2.1,x.2.2.2.1)/\0<=x.1/\(x.2.2.2.2.2.1.length:Int)+x.1<=6/\3<=x.2.2.2.2.1.length/\(x.2.2.2.2.1.length:Int)+x.1<=9/\(∀y∈x.2.2.2.2.2.1,Cq y)/\∀y∈x.2.2.2.2.1,y.size<=26) ?_
  ⟨hs0,by simp only; omega,by simp; omega,by simp,by simp; omega,by simp,by
    intro y hy;simp only[List.nil_append,List.mem_cons,List.not_mem_nil,or_false] at hy;rcases hy with rfl | rfl | rfl <;> decide⟩ (by simp only; omega)
 rintro g ⟨m,c,at0,sd0,nets,ins,a1,a2,a3,a4⟩ ⟨i1,i2,i3,i4,i5,i6,i7⟩ ih;simp only at i1 i2 i3 i4 i5 i6 i7;unfold w0H;dsimp only;by_cases cm:0<m
 ·rw[if_pos (decide_eq_true cm)];obtain⟨v1,s1,e1,hs1,q1,q2,-⟩:=C0 (n:=12) i1 (by omega);have q2:=q2 (by omega);simp only[e1,vS,Option.isSome_some];refine m0 ⟨trivial,⟨by omega,by simp; omega⟩,by simp; omega,trivial⟩ (A8 ?_);dsimp only;have hc:=z0N v1.toNat;generalize ([(0:Int),1,2,2,3,4,5,5,5,6,7,1]).getD v1.toNat 0=cell at hc ⊢;obtain⟨nm,e2,hnm⟩:=Ug (n:=(ins.length:Int)) (by omega) (by omega);obtain⟨nm2,e3,hnm2⟩:=Ug (n:=(nets.length:Int)) (by omega) (by omega);rw[e2]
  refine m0 ⟨rfl,by rw[vS]; have:(ByteArray.mk #[117]).size=1:=rfl
                    omega,trivial⟩ (A8 ?_)
  rw[vS];have hpn:=C0d cell.toNat (by omega);refine M8 (fun x=>(5-x.1).toNat) (fun x=>Sd (x.2.2.1,x.2.2.2.1,x.2.2.2.2)/\0<=x.1/\x.1<=3/\(x.2.1.length:Int)=x.1) ?_ ⟨hs1,by simp only; omega,by simp only; omega,by simp⟩ (by simp only; omega);rintro g2 ⟨k,xn,c2,at2,sd2⟩ ⟨k1,k2,k3,k4⟩ ih2;simp only at k1 k2 k3 k4;unfold w0G;dsimp only;refine m0 ⟨⟨by omega,by simp; omega⟩,by simp; omega,oo,trivial⟩ ?_;by_cases ck:k < ([(2:Int),2,3,3,4,3,3,3]).getD cell.toNat 0-1
  ·rw[if_pos (decide_eq_true ck)];obtain⟨v3,s3,e4,hs3,w1,w2,-⟩:=C0 (n:=(nets.length:Int)-1) k1 (by omega);have w2:=w2 (by omega);obtain⟨v4,s4,e5,hs4,-,-,-⟩:=C0 (n:=3) hs3 (by omega);simp only[e4,vS,Option.isSome_some];refine m0 ⟨oo,trivial,oo,trivial⟩ (A8 ?_);dsimp only;simp only[e5,vS,Option.isSome_some];refine m0 ⟨trivial,trivial⟩ (A8 ?_);dsimp only;have n6:∀(x:Int) (s5:l8),Sd s5->∃r,k0s k xn s5.1 s5.2.1 s5.2.2 g2 x=some r/\True:=fun x s5 hs5=>by
    unfold k0s;exact m0 ⟨oo,⟨by simp; omega,by simp; omega⟩,trivial⟩ (m0 ⟨oo,trivial⟩ (ih2 _ ⟨hs5,by simp only; omega,by simp only; omega,by simp; omega⟩ (by simp only; omega)))
   have n5:∀(x:Int) (s5:l8),Sd s5->∃r,k0t k xn cell g2 (s5.1,s5.2.1,s5.2.2,x)=some r/\True:=fun x s5 hs5=>by
    unfold k0t;dsimp only;split
    ·exact n6 _ s5 hs5
    ·exact n6 _ s5 hs5
   split
   ·exact m0 ⟨oo,trivial⟩ (n5 _ s4 hs4)
   ·exact n5 _ s4 hs4
  ·rw[if_neg (by simpa using ck)];unfold q0H;dsimp only;refine m0 ⟨oo,⟨by simp; omega,by simp; omega⟩,trivial⟩ ?_;rw[e3];have hu:(ByteArray.mk #[110]).size=1:=rfl;refine m0 ⟨rfl,by rw[vS]; omega,⟨by simp; omega,by simp; omega⟩,trivial⟩ (A8 ?_);rw[vS];refine m0 ⟨⟨by simp; omega,by simp; omega⟩,trivial⟩ (A8 ?_);dsimp only;unfold q0I;dsimp only;refine m0 ⟨oo,trivial⟩ (ih _ ⟨k1,by simp only; omega,by simp; omega,by simp; omega,by simp; omega,fun y hy=>?_,fun y hy=>?_⟩ (by simp only; omega))
   ·rcases List.mem_append.1 hy with hy | hy
    ·exact i6 y hy
    ·rw[List.mem_singleton.1 hy];exact⟨by simp,by simp; omega,by
      have h117:(ByteArray.mk #[117]).size=1:=rfl;rw[ByteArray.size_append]; omega⟩
   ·rcases List.mem_append.1 hy with hy | hy
    ·exact i7 y hy
    ·rw[List.mem_singleton.1 hy,ByteArray.size_append]; omega
 ·rw[if_neg (by simpa using cm)];exact v0B (s:=(c,at0,sd0)) i1 (by omega) i6 ⟨i4,by omega⟩ i7
end
end Go.Proofs.YtphnknndgfgepaaGreatDoor
end
