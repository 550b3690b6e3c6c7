/- Cells: what the program's functions and the reference's say of them. -/
import Derived.Test.YtphnknndgfgepaaGreatDoorWC
import Derived.Test.YtphnknndgfgepaaGreatDoorWB
section
namespace Go.Proofs.YtphnknndgfgepaaGreatDoor
open Go Go.Proofs Go.Proofs.Sv Go.Proofs.Xv Go.Proofs.Xl Go.Proofs.Xd
abbrev a0l(c:a0A)(i:Nat):f0w:=c.2.2.1.getD i (a0a y217)
abbrev a0c(c:a0A)(i:Nat):c0f:=c.2.2.2.1.getD i (a0a y143)
theorem E0p(c:a0A)(hw:wf y163 c):k0r c=some ((c.2.2.1.length:Int)-1):=by
 have h:=hw.2.2.1.1;have e:q0N c.2.2.1=some (c.2.2.1.length:Int):=rfl;unfold k0r;rw[e,vS,gP ⟨rfl,oo,trivial⟩,lE]
theorem F0C(c:a0A)(hw:wf y163 c)(x:Int):t0Q c x=some (inB x 0 ((c.2.2.1.length:Int)-1-1)):=by
 have h:=hw.2.2.1.1;unfold t0Q;rw[E0p c hw,vS,p0A,vS,gP ⟨rfl,oo,rfl,trivial⟩]
theorem H0b(c:a0A)(hw:wf y163 c):A0k c=some (y0k c.2.2.1.length (a0l c)):=by
 have h:=hw.2.2.1.1;have h1:g0v c.2.2.1=_:=b0S h (fun i=>(a0l c i).2.2.2) (fun g i hi=>h0x hi h rfl) (fun g=>aE);unfold A0k;rw[h1,vS,gP ⟨rfl,trivial⟩,lE];rfl
theorem E0o(c:a0A)(hw:wf y163 c)(k:Int):g0d c k=some (b0j c.2.2.2.1.length (a0c c) k):=by
 have h:=hw.2.2.2.1.1;have h1:g0w c.2.2.2.1 k=_:=b0S h (fun i=>(a0c c i).1==k) (fun g i hi=>h0x hi h rfl) (fun g=>aE);have h2:e0U c.2.2.2.1 k=_:=d0l h1;unfold g0d;rw[h2,vS,gP ⟨rfl,trivial⟩];rfl
theorem H0d(c:a0A)(a:c0f)(hc:wf y163 c)(ha:wf y143 a):w0k c a=some (f0n c.2.2.1.length (a0l c) a):=by
 obtain⟨_,_,_,_,hd,hs⟩:=ha;have ek:B0H a.1=some (a.1==4||a.1==5):=rfl;have hg:inB a.2.1 0 ((c.2.2.1.length:Int)-1-1)=true->ix a.2.1 c.2.2.1.length:=fun h=>by
  rw[a0u] at h; exact oo
 unfold w0k;rw[ek,E0n _ _ hd,E0n _ _ hd,E0n _ _ hs,H0b c hc,F0C c hc,F0C c hc,E0p c hc]
 repeat rw[vS]
 rw[gP ⟨rfl,trivial⟩];unfold f0n;by_cases k45:a.1=4∨a.1=5
 ·have e1:(a.1==4||a.1==5)=true:=by simpa using k45
  rw[if_pos e1,if_pos k45,gP ⟨fun _=>rfl,fun _=>rfl,fun _=>rfl,trivial⟩,lE]
 ·have e1:(a.1==4||a.1==5)=false:=by
   rw[<- Bool.not_eq_true]; simpa using k45
  rw[e1,if_neg (by simp),if_neg k45,gP ⟨rfl,fun _=>rfl,fun _=>rfl,fun _=>rfl,trivial⟩,lE];by_cases hgo:a0m a.2.2.2.2.1 true=true/\a0m a.2.2.2.2.2 true=true/\a.2.2.1=(c.2.2.1.length:Int)-1/\inB a.2.1 0 ((c.2.2.1.length:Int)-1-1)=true
  ·obtain⟨g1,g2,g3,g4⟩:=hgo;have e3:(a0m a.2.2.2.2.1 true&&a0m a.2.2.2.2.2 true&&a.2.2.1==(c.2.2.1.length:Int)-1&&inB a.2.1 0 ((c.2.2.1.length:Int)-1-1))=true:=by
    rw[g1,g2,g4,g3]; simp
   have e2:(!a0m a.2.2.2.2.1 true||!a0m a.2.2.2.2.2 true||a.2.2.1 != (c.2.2.1.length:Int)-1||!inB a.2.1 0 ((c.2.2.1.length:Int)-1-1))=false:=by
    rw[g1,g2,g4,g3]; simp
   rw[e3,Bool.true_and];refine(if_neg (by rw[e2]; simp)).trans ?_;by_cases k1:a.1=1
   ·rw[if_pos (beq_iff_eq.2 k1),if_pos k1,p0A,gP ⟨hg g4,fun _=>rfl,trivial⟩];rfl
   ·rw[if_neg (by simpa using k1),if_neg k1];have j:∀b,k0s c a b=some (if b=true then(a0l c a.2.1.toNat).2.2.2&&a.2.2.2.1==0 else false):=fun b=>by
     unfold k0s;cases b with
     | false=>rfl
     | true=>rw[if_pos rfl,if_pos rfl,gP ⟨hg g4,trivial⟩]
    by_cases k2:a.1=2
    ·rw[if_pos (beq_iff_eq.2 k2),if_pos (.inl k2),j,beq_iff_eq.2 k2]; rfl
    ·rw[if_neg (by simpa using k2),j];by_cases k3:a.1=3
     ·rw[beq_iff_eq.2 k3,if_pos rfl,if_pos (.inr k3)]
     ·rw[beq_eq_false_iff_ne.2 k3,if_neg (by simp),if_neg (by omega)]
  ·have e2:(!a0m a.2.2.2.2.1 true||!a0m a.2.2.2.2.2 true||a.2.2.1 != (c.2.2.1.length:Int)-1||!inB a.2.1 0 ((c.2.2.1.length:Int)-1-1))=true:=by
    rw[<- Bool.not_eq_false];intro h;simp only[Bool.or_eq_false_iff,Bool.not_eq_false',bne_eq_false_iff_eq] at h;exact hgo ⟨h.1.1.1,h.1.1.2,h.1.2,h.2⟩
   have e3:(a0m a.2.2.2.2.1 true&&a0m a.2.2.2.2.2 true&&a.2.2.1==(c.2.2.1.length:Int)-1&&inB a.2.1 0 ((c.2.2.1.length:Int)-1-1))=false:=by
    rw[<- Bool.not_eq_true];intro h;simp only[ba,beq_iff_eq] at h;exact hgo ⟨h.1.1.1,h.1.1.2,h.1.2,h.2⟩
   rw[e3,Bool.false_and];exact if_pos e2
theorem H0j(c:a0A)(a:c0f)(hc:wf y163 c)(ha:wf y143 a):A0l c a=some (a0J c.2.2.1.length (a0l c) a):=by
 obtain⟨_,_,_,_,hd,hs⟩:=ha;have h:=hc.2.2.1.1;unfold A0l;rw[gP ⟨oo,trivial⟩,r97,r97]
 repeat rw[vS]
 rw[gP ⟨oo,rfl,fun _=>rfl,trivial⟩];unfold a0J;by_cases hgo:inB a.2.1 0 ((c.2.2.1.length:Int)-1-1)=true/\inB a.2.2.1 0 ((c.2.2.1.length:Int)-1)=true
 ·obtain⟨g1,g2⟩:=hgo;have b1:=a0u.1 g1;have b2:=a0u.1 g2;rw[g1,g2,if_neg (by simp),gP ⟨oo,trivial⟩,lE,Bool.true_and,Bool.true_and];by_cases k1:a.1=1
  ·rw[if_pos (beq_iff_eq.2 k1),if_pos k1,r97,C0j _ _ hd,C0j _ _ hs,gP ⟨fun _=>rfl,fun _=>rfl,fun _=>rfl,trivial⟩];rfl
  ·rw[if_neg (by simpa using k1),if_neg k1];have j1:∀b,g0P (a0l c a.2.1.toNat) a c b=some (if b=true then(a0l c a.2.1.toNat).2.2.2&&decide (a.2.2.1 < (c.2.2.1.length:Int)-1)&&!(a0l c a.2.2.1.toNat).2.2.2&&a.2.2.2.1==0&&a0m a.2.2.2.2.1 false&&(a.2.2.2.2.2.length:Int)==0 else false):=fun b=>by
    unfold g0P;cases b with
    | false=>rfl
    | true =>
      rw[if_pos rfl,if_pos rfl,C0j _ _ hd,gP ⟨fun _=>oo,fun _=>rfl,trivial⟩];rfl
   have j0:∀b,k0v (a0l c a.2.1.toNat) a c b=some (if b=true then(a0l c a.2.1.toNat).2.2.2&&a.2.2.1==(c.2.2.1.length:Int)-1&&a.2.2.2.1==0&&a0m a.2.2.2.2.1 true&&a0m a.2.2.2.2.2 true else if a.1=4∨a.1=5 then(a0l c a.2.1.toNat).2.2.2&&decide (a.2.2.1 < (c.2.2.1.length:Int)-1)&&!(a0l c a.2.2.1.toNat).2.2.2&&a.2.2.2.1==0&&a0m a.2.2.2.2.1 false&&(a.2.2.2.2.2.length:Int)==0 else false):=fun b=>by
    unfold k0v;cases b with
    | true =>
      rw[if_pos rfl,if_pos rfl,C0j _ _ hd,C0j _ _ hs,gP ⟨fun _=>rfl,fun _=>rfl,trivial⟩];rfl
    | false =>
      show(if(a.1==4)=true then g0P (a0l c a.2.1.toNat) a c (a.1==4) else g0P (a0l c a.2.1.toNat) a c (a.1==5))=some (if a.1=4∨a.1=5 then _ else false);by_cases k4:a.1=4
      ·rw[if_pos (beq_iff_eq.2 k4),j1,beq_iff_eq.2 k4,if_pos rfl,if_pos (.inl k4)]
      ·rw[if_neg (by simpa using k4),j1];by_cases k5:a.1=5
       ·rw[beq_iff_eq.2 k5,if_pos rfl,if_pos (.inr k5)]
       ·rw[beq_eq_false_iff_ne.2 k5,if_neg (by simp),if_neg (by omega)]
   by_cases k2:a.1=2
   ·rw[if_pos (beq_iff_eq.2 k2),if_pos (.inl k2)];refine(j0 _).trans ?_;rw[beq_iff_eq.2 k2]; rfl
   ·rw[if_neg (by simpa using k2)];refine(j0 _).trans ?_;by_cases k3:a.1=3
    ·rw[beq_iff_eq.2 k3,if_pos rfl,if_pos (.inr k3)]
    ·rw[beq_eq_false_iff_ne.2 k3,if_neg (by simp),if_neg (by omega:¬(a.1=2∨a.1=3))]
 ·have e2:(!inB a.2.1 0 ((c.2.2.1.length:Int)-1-1)||!inB a.2.2.1 0 ((c.2.2.1.length:Int)-1))=true:=by
   rw[<- Bool.not_eq_false];intro h;simp only[Bool.or_eq_false_iff,Bool.not_eq_false'] at h;exact hgo h
  have e3:(inB a.2.1 0 ((c.2.2.1.length:Int)-1-1)&&inB a.2.2.1 0 ((c.2.2.1.length:Int)-1))=false:=by
   rw[<- Bool.not_eq_true];intro h;rw[ba] at h;exact hgo h
  rw[e3,Bool.false_and];exact if_pos e2
theorem m0i{c:a0A}(hw:wf y163 c):wf (.sl y217) c.2.2.1:=hw.2.2.1
theorem m0j{c:a0A}(hw:wf y163 c):wf (.sl y143) c.2.2.2.1:=hw.2.2.2.1
theorem c0V{α:Type}(l:List α)(f:α->ByteArray)(d:α)(e:ByteArray):a0B (l.map f).length (fun i=>(l.map f).getD i e)=a0B l.length fun i=>f (l.getD i d):=by
 rw[List.length_map];exact l0n fun i hi=>s0z f l i d e hi
theorem i0n{α:Type}{l:List α}{f:α->ByteArray}(h:l.length<=9223372036854775807)(hf:∀x∈l,(f x).size<=9223372036854775807):wf (.sl .str) (l.map f):=by
 refine⟨by rw[List.length_map]; exact h,fun x hx=>?_⟩;obtain⟨y,hy,rfl⟩:=List.mem_map.1 hx;exact hf y hy
def m0O(f:Nat->ByteArray)(i:Nat)(s:List ByteArray):List ByteArray:=s++[f i]
theorem s0B(f:Nat->ByteArray):∀n,fN (m0O f) n []=(List.range n).map f
 | 0=>rfl
 | n+1=>by
   rw[fN,s0B f n,List.range_succ,List.map_append]; rfl
theorem e0g{α:Type}(l:List α)(d:α)(f:α->ByteArray):fN (m0O fun i=>f (l.getD i d)) l.length []=l.map f:=by
 rw[s0B,r0G]
theorem o0W{n i b:Nat}(h:i<n)(hn:n<=1048576)(hb:b<=4096):i+1<=9223372036854775807/\(i+1)*b<=140737488355328:=by
 have:(i+1)*b<=1048576*4096:=Nat.mul_le_mul (by omega) hb;exact oo
theorem H0h(l:List f0w)(hw:wf (.sl y217) l)(hm:l.length<=1048576):t0S l=some (c0U l.length fun i=>l.getD i (a0a y217)):=by
 have h:=hw.1;have key:=f0i (n:=l.length) h (fun i (s:List ByteArray)=>(s,(i:Int))) (m0O fun i=>(l.getD i (a0a y217)).1) (fun i=>!q0h l.length (l.getD i (a0a y217)) i) (some false) (fun i s=>s.length=i) (J:=k0t l) (F:=w0p l) (fun g i s hi hI=>by
  refine(if_pos (by simpa using hi)).trans ?_;have e3:((i:Int)).toNat=i:=rfl;have hs:(s++[(l.getD i (a0a y217)).1]).length<=9223372036854775807:=by rw[List.length_append]; show s.length+1<=_; omega
  have ha:=o0W (b:=16) hi hm (by decide);have j2:∀s',n0s (i:Int) g s'=g (s',((i+1:Nat):Int)):=fun s'=>gP ⟨oo,trivial⟩;rw[e3,gP ⟨oo,trivial⟩,lE,gP ⟨⟨by show s.length+1<=_; omega,by show(s.length+1)*16<=_; omega⟩,trivial⟩,gP ⟨oo,trivial⟩,j2,p0A,gP ⟨fun _=>rfl,trivial⟩,vS];unfold q0h m0O;dsimp only;by_cases hl:i+1=l.length
  ·have e1:((i:Int)==(l.length:Int)-1)=true:=by rw[beq_iff_eq]; omega
   rw[if_pos e1,if_pos hl];generalize l.getD i (a0a y217)=q;have n1:(q.2.1 != 2)=!(q.2.1==2):=rfl;have n2:(q.2.2.1 != 0)=!(q.2.2.1==0):=rfl;rw[n1,n2];cases c2:q.2.2.1==0 with
   | true =>
     have c3:inB q.2.2.1 0 500=true:=by rw[beq_iff_eq.1 c2]; rfl
     rw[c3];cases q.2.1==2 <;> cases q.2.2.2 <;> rfl
   | false=>cases inB q.2.2.1 0 500 <;> cases q.2.1==2 <;> cases q.2.2.2 <;> rfl
  ·have e1:¬((i:Int)==(l.length:Int)-1)=true:=by rw[beq_iff_eq]; omega
   rw[if_neg e1,if_neg hl];generalize l.getD i (a0a y217)=q;have e4:(q.2.1 != 1||!inB q.2.2.1 0 500)=!(inB q.2.2.1 0 500&&q.2.1==1):=by
    rw[Bool.not_and,Bool.or_comm]; rfl
   rw[e4]) (fun i s hi hI _=>by unfold m0O; rw[List.length_append,hI]; rfl) (fun g s _=>aE) [] rfl
 refine key.trans ?_;rw[e0g];have hn:wf (.sl .str) (l.map fun q:f0w=>q.1):=i0n h fun x hx=>(hw.2 x hx).1;have e5:q0N l=some (l.length:Int):=rfl;have e7:∀v:List ByteArray,wf (.sl .str) v->k0t l v=some (inB (l.length:Int) 2 5&&a0B v.length fun i=>v.getD i (a0a .str)):=fun v hv=>by
  rw[k0t];rw[e5,C0k _ hv]
  repeat rw[vS]
  rw[p0A,vS,gP ⟨rfl,rfl,fun _=>rfl,trivial⟩]
 rw[e7 _ hn,c0V l (fun q:f0w=>q.1) (a0a y217)];unfold c0U;have e6:inB (l.length:Int) 2 5=(decide (2<=l.length)&&decide (l.length<=5)):=by
  rw[Bool.eq_iff_iff,a0u]; simp; omega
 rw[e6];cases(List.range l.length).any fun i=>!q0h l.length (l.getD i (a0a y217)) i
 ·simp
 ·simp
theorem H0k(c:a0A)(hw:wf y163 c):B0Q c=some (if c0U c.2.2.1.length (a0l c)=true then(e0N c.2.2.1.length (a0l c),true) else(0,false)):=by
 have hp:=m0i hw;have h:=hp.1;unfold B0Q;by_cases hr:2<=c.2.2.1.length/\c.2.2.1.length<=5
 ·have e0:(decide ((c.2.2.1.length:Int)<2)||decide (5 < (c.2.2.1.length:Int)))=false:=by
   rw[<- Bool.not_eq_true]; simp; omega
  rw[e0,if_neg (by simp)];have key:=f0i (n:=c.2.2.1.length) h (fun i (s:Int)=>(s,(i:Int))) (fun i s=>if(a0l c i).2.2.2=true then s+1 else s) (fun i=>(!nmB (a0l c i).1||i0X (fun i=>(a0l c i).1) i)||!q0h c.2.2.1.length (a0l c i) i) (some ((0:Int),false)) (fun i s=>0<=s/\s<=i) (J:=q0Q) (F:=w0u c) (fun g i s hi hI=>by
   refine(if_pos (by simpa using hi)).trans ?_;have e3:((i:Int)).toNat=i:=rfl;have hs:(a0l c i).1.size<=9223372036854775807:=(e0r (d:=a0a y217) hi hp).1;rw[e3,gP ⟨oo,trivial⟩,lE];have inner:=b0e (n:=i) (by omega) (fun k=>decide ((a0l c k).1=(a0l c i).1)) (some ((0:Int),false)) (e:=n0t (i:Int) s (a0l c i) c g ()) (F:=w0t c (a0l c i) (i:Int) s g) (fun g3 k hk=>d0T hk (by omega) ⟨oo,trivial⟩) (fun g3=>aE);refine inner.trans ?_;have j3:n0t (i:Int) s (a0l c i) c g ()=if(!nmB (a0l c i).1||!q0h c.2.2.1.length (a0l c i) i)=true then some ((0:Int),false) else g (if(a0l c i).2.2.2=true then s+1 else s,((i+1:Nat):Int)):=by
    have j2:∀s',n0u (i:Int) g s'=g (s',((i+1:Nat):Int)):=fun s'=>gP ⟨oo,trivial⟩;show gd _ (if(!vl (m0p (a0l c i).1)||!vl (u97 (a0l c i).2.2.1 0 500))=true then _ else gd _ (if _=true then _ else if _=true then gd _ _ else _))=_;rw[E0s _ hs,r97,vS,vS,gP ⟨rfl,fun _=>rfl,trivial⟩,gP ⟨oo,fun _=>oo,trivial⟩,gP ⟨oo,trivial⟩,j2,j2];generalize a0l c i=q;have hx:((i:Int)==(c.2.2.1.length:Int)-1)=decide (i+1=c.2.2.1.length):=by
     rw[Bool.eq_iff_iff,beq_iff_eq,dq]; omega
    have hy:decide ((i:Int) < (c.2.2.1.length:Int)-1)=!decide (i+1=c.2.2.1.length):=by
     rw[Bool.eq_iff_iff]; simp; omega
    rw[hx,hy];have hz:q0h c.2.2.1.length q i=(inB q.2.2.1 0 500&&(if decide (i+1=c.2.2.1.length)=true then q.2.1==2&&q.2.2.1==0&&!q.2.2.2 else q.2.1==1)):=by
     unfold q0h;by_cases hq:i+1=c.2.2.1.length
     ·rw[if_pos hq,decide_eq_true hq,if_pos rfl]
     ·rw[if_neg hq,decide_eq_false hq,if_neg (by simp)]
    rw[hz];have n1:(q.2.1 != 2)=!(q.2.1==2):=rfl;have n2:(q.2.2.1 != 0)=!(q.2.2.1==0):=rfl;have n3:(q.2.1 != 1)=!(q.2.1==1):=rfl;rw[n1,n2,n3];cases nmB q.1 <;> cases inB q.2.2.1 0 500 <;> cases decide (i+1=c.2.2.1.length) <;> cases q.2.1==2 <;> cases q.2.2.1==0 <;> cases q.2.1==1 <;> cases q.2.2.2 <;> rfl
   rw[j3];have hd:i0X (fun i=>(a0l c i).1) i=(List.range i).any fun k=>decide ((a0l c k).1=(a0l c i).1):=rfl;rw[hd];cases nmB (a0l c i).1 <;> cases q0h c.2.2.1.length (a0l c i) i <;> cases(List.range i).any (fun k=>decide ((a0l c k).1=(a0l c i).1)) <;> rfl) (fun i s hi hI _=>by
   have hI':0<=s/\s<=(i:Int):=hI;show 0<=(if(a0l c i).2.2.2=true then s+1 else s)/\(if(a0l c i).2.2.2=true then s+1 else s)<=((i+1:Nat):Int);split <;> omega) (fun g s _=>aE) 0 oo
  refine key.trans ?_;rw[o0Y];unfold c0U a0B;rw[decide_eq_true hr.1,decide_eq_true hr.2];cases(List.range c.2.2.1.length).any (fun i=>!nmB (a0l c i).1||i0X (fun i=>(a0l c i).1) i) <;> cases(List.range c.2.2.1.length).any (fun i=>!q0h c.2.2.1.length (a0l c i) i) <;> rfl
 ·have e0:(decide ((c.2.2.1.length:Int)<2)||decide (5 < (c.2.2.1.length:Int)))=true:=by
   simp; omega
  have e1:¬c0U c.2.2.1.length (a0l c)=true:=fun hc=>by
   obtain⟨h1,h2,_⟩:=c0T hc;exact hr ⟨h1,h2⟩
  rw[if_pos e0,if_neg e1]
theorem H0g(c:a0A)(hw:wf y163 c):w0o c=some (n0e (f0n c.2.2.1.length (a0l c)) c.2.2.2.1.length (a0c c)):=by
 have ha:=m0j hw;have h:=ha.1;have hA:∀(xs:List c0f) (o:c0f),xs.length<=9223372036854775807->d0V xs o=some (xs.any fun x=>x.1==o.1&&x.2.1==o.2.1&&x.2.2.1==o.2.2.1):=fun xs o hx=>by
  have h1:g0x xs o=_:=b0S hx (fun i=>(xs.getD i (a0a y143)).1==o.1&&(xs.getD i (a0a y143)).2.1==o.2.1&&(xs.getD i (a0a y143)).2.2.1==o.2.2.1) (fun g i hi=>h0x hi hx rfl) (fun g=>aE);have h2:d0V xs o=_:=d0l h1;rw[a0X xs (a0a y143) (fun x=>x.1==o.1&&x.2.1==o.2.1&&x.2.2.1==o.2.2.1)] at h2;exact h2
 have key:=b0e (n:=c.2.2.2.1.length) h (fun i=>!f0n c.2.2.1.length (a0l c) (a0c c i)||A0D (a0c c) i) (some false) (e:=n0r c ()) (F:=w0n c) (fun g i hi=>by
  have e3:((i:Int)).toNat=i:=rfl;have hl:(c.2.2.2.1.take i).length<=9223372036854775807:=by rw[List.length_take]; omega
  have e1:=H0d c (a0c c i) hw (e0r hi ha);have e2:=hA (c.2.2.2.1.take i) (a0c c i) hl;rw[r0m c.2.2.2.1 (a0a y143) _ i (by omega)] at e2;refine(if_pos (by simpa using hi)).trans ?_;rw[e3,gP ⟨oo,trivial⟩,lE,e1,e2,vS,vS,gP ⟨rfl,fun _=>⟨by omega,by omega,by omega⟩,fun _=>rfl,trivial⟩,gP ⟨oo,trivial⟩];rfl) (fun g=>aE)
 refine key.trans ?_;unfold n0e n0r;have e:decide ((c.2.2.2.1.length:Int)<=8)=decide (c.2.2.2.1.length<=8):=by rw[decide_eq_decide]; omega
 rw[e];cases(List.range c.2.2.2.1.length).any fun i=>!f0n c.2.2.1.length (a0l c) (a0c c i)||A0D (a0c c) i
 ·simp
 ·simp
theorem c0P{n:Nat}(h:1<=n):((n:Int)-1).toNat=n-1:=by omega
theorem H0f(c:a0A)(hw:wf y163 c)(h2:2<=c.2.2.1.length)(h5:c.2.2.1.length<=5):B0L c=some (p0M c.2.1 c.2.2.1.length (a0l c) c.2.2.2.1.length (a0c c) c.2.2.2.2.1):=by
 have hp:=m0i hw;have h:=hp.1;have ht:=hw.2.2.2.2.1.1;have key:=lF (n:=c.2.2.1.length) h (fun i (s:Int)=>(s,(i:Int))) (fun i s=>if(a0l c i).2.2.2=true then s+1 else s) (fun i s=>0<=s/\s<=i) (J:=i0u c) (F:=w0m c) (fun g i s hi hI=>by
  have j2:∀s',n0q (i:Int) g s'=g (s',((i+1:Nat):Int)):=fun s'=>gP ⟨oo,trivial⟩;have e3:((i:Int)).toNat=i:=rfl;refine(if_pos (by simpa using hi)).trans ?_;rw[e3,gP ⟨oo,trivial⟩,lE,gP ⟨oo,trivial⟩,j2,j2];show(if(a0l c i).2.2.2=true then _ else _)=g (if(a0l c i).2.2.2=true then s+1 else s,_);split <;> rfl) (fun i s hi hI=>by
  have hI':0<=s/\s<=(i:Int):=hI;show 0<=(if(a0l c i).2.2.2=true then s+1 else s)/\(if(a0l c i).2.2.2=true then s+1 else s)<=((i+1:Nat):Int);split <;> omega) (fun g s _=>aE) 0 oo
 refine key.trans ?_;show i0u c (e0N c.2.2.1.length (a0l c))=_;have hk:∀k0:Int,i0u c k0=some (if c.2.1=1 then k0==0&&(c.2.2.2.2.1.length:Int)==1*2 ^ (c.2.2.1.length-1)&&c.2.2.2.2.1.all (inB · 0 1)
  else if c.2.1=2 then k0==1&&(c.2.2.2.2.1.length:Int)==0&&!b0j c.2.2.2.1.length (a0c c) 1&&!(b0j c.2.2.2.1.length (a0c c) 2==b0j c.2.2.2.1.length (a0c c) 3)
  else if c.2.1=3 then k0==1&&(c.2.2.2.2.1.length:Int)==0&&b0j c.2.2.2.1.length (a0c c) 1&&b0j c.2.2.2.1.length (a0c c) 2&&!b0j c.2.2.2.1.length (a0c c) 3
  else false):=fun k0=>by
  rw[i0u,E0p c hw,z0c _ _ _ ht,E0o c hw,E0o c hw,E0o c hw]
  repeat rw[vS]
  rw[c0P (by omega)];by_cases k1:c.2.1=1
  ·rw[if_pos (beq_iff_eq.2 k1),if_pos k1,gP ⟨fun _=>rfl,fun _=>⟨by omega,x0R h5⟩,fun _=>rfl,trivial⟩,lE,c0P (by omega)]
  ·rw[if_neg (by simpa using k1),if_neg k1];by_cases k2:c.2.1=2
   ·rw[if_pos (beq_iff_eq.2 k2),if_pos k2,gP ⟨fun _=>rfl,fun _=>rfl,fun _=>rfl,trivial⟩]
   ·rw[if_neg (by simpa using k2),if_neg k2];by_cases k3:c.2.1=3
    ·rw[if_pos (beq_iff_eq.2 k3),if_pos k3,gP ⟨fun _=>rfl,fun _=>rfl,fun _=>rfl,trivial⟩]
    ·rw[if_neg (by simpa using k3),if_neg k3]
 exact hk (e0N c.2.2.1.length (a0l c))
abbrev d0y(q:Nat->(Nat->i0l)->e0M->Bool)(c:a0A):Bool:=d0B q c.1 c.2.1 c.2.2.1.length (a0l c) c.2.2.2.1.length (a0c c) c.2.2.2.2.1 c.2.2.2.2.2.1 c.2.2.2.2.2.2
theorem H0l(c:a0A)(hw:wf y163 c)(hm:c.2.2.1.length<=1048576):A0n c=some (d0y a0J c):=by
 have hp:=m0i hw;show _=some (d0B a0J _ _ _ _ _ _ _ _ _);rw[<- z0S];unfold A0n d0B;rw[F0L c.1 hw.1,H0h _ hp hm,H0g c hw,p0A,p0A]
 repeat rw[vS]
 cases hpo:c0U c.2.2.1.length (a0l c) with
 | false =>
   rw[gP ⟨rfl,fun _=>rfl,fun hc=>by simp at hc,fun hc=>by simp at hc,fun hc=>by simp at hc,fun hc=>by simp at hc,trivial⟩];simp
 | true =>
   obtain⟨h2,h5,_⟩:=c0T hpo;rw[H0f c hw h2 h5,vS,gP ⟨rfl,fun _=>rfl,fun _=>rfl,fun _=>rfl,fun _=>rfl,fun _=>rfl,trivial⟩]
theorem H0i(c:a0A)(hw:wf y163 c)(h8:c.2.2.2.1.length<=8)(hk:∀i,i<c.2.2.2.1.length->1<=(a0c c i).1/\(a0c c i).1<=5):B0P c=some (fN (h0o (a0c c)) c.2.2.2.1.length (List.replicate 6 0)):=by
 have h:=(m0j hw).1;unfold B0P;rw[gP ⟨⟨by omega,rfl,by decide,by omega⟩,trivial⟩];have key:=lF (n:=c.2.2.2.1.length) h (fun i (v:List Int)=>((i:Int),v)) (h0o (a0c c)) (fun i v=>i<=c.2.2.2.1.length/\v=fN (h0o (a0c c)) i (List.replicate 6 0)) (J:=fun v=>some v) (F:=w0r c) (fun g i v hi hI=>by
  obtain⟨h1,h2⟩:=f0R (a0c c) i (fun j hj=>hk j (by omega));obtain⟨k1,k2⟩:=hk i hi;have hlen:v.length=6:=by rw[hI.2]; exact h1
  have hcnt:=h2 (a0c c i).1.toNat (by omega);have hle:=h0I (a0c c) ((a0c c i).1.toNat:Int) i;rw[<- hI.2] at hcnt;have e3:((i:Int)).toNat=i:=rfl;refine(if_pos (by simpa using hi)).trans ?_;have hin:a0e (v.getD (a0c c i).1.toNat 0+1):=by rw[hcnt]; exact oo
  have hix:ix (a0c c i).1 v.length:=oo;have hlt:(a0c c i).1.toNat<v.length:=by omega
  rw[e3,gP ⟨oo,hix,hlt,hin,hix,hlt,trivial⟩,lE,gP ⟨oo,trivial⟩];rfl) (fun i v hi hI=>⟨by omega,by rw[hI.2]; rfl⟩) (fun g s _=>aE) (List.replicate 6 0) ⟨by omega,rfl⟩
 exact key
theorem H0n(c:a0A)(hw:wf y163 c):A0p c=some (d0y a0J c):=by
 have ha:=m0j hw;have h:=ha.1;show _=some (d0B a0J _ _ _ _ _ _ _ _ _);unfold A0p d0B;rw[H0k c hw,E0s c.1 hw.1,r97,r97]
 repeat rw[vS]
 rw[gP ⟨rfl,trivial⟩,lE,gP ⟨fun _=>rfl,fun _=>rfl,fun _=>rfl,trivial⟩];cases hpo:c0U c.2.2.1.length (a0l c) with
 | false =>
   have e9:(if false=true then(e0N c.2.2.1.length (a0l c),true) else((0:Int),false))=((0:Int),false):=rfl;rw[e9];refine(if_pos (by rfl)).trans ?_;simp
 | true =>
   obtain⟨h2,h5,_⟩:=c0T hpo;have e9:(if true=true then(e0N c.2.2.1.length (a0l c),true) else((0:Int),false))=(e0N c.2.2.1.length (a0l c),true):=rfl;rw[e9];by_cases hgo:nmB c.1=true/\c.2.2.2.1.length<=8/\inB c.2.2.2.2.2.1 0 100000=true/\inB c.2.2.2.2.2.2 0 100000=true
   ·obtain⟨g1,g2,g3,g4⟩:=hgo;have e0:decide (8 < (c.2.2.2.1.length:Int))=false:=decide_eq_false (by omega);rw[g1,e0,g3,g4];refine(if_neg (by simp)).trans ?_;have key:=b0e (n:=c.2.2.2.1.length) h (fun i=>!a0J c.2.2.1.length (a0l c) (a0c c i)||A0D (a0c c) i) (some false) (e:=n0w c (e0N c.2.2.1.length (a0l c),true) ()) (F:=w0D c (e0N c.2.2.1.length (a0l c),true)) (fun g i hi=>by
     have e3:((i:Int)).toNat=i:=rfl;have e1:=H0j c (a0c c i) hw (e0r hi ha);have inner:=b0e (n:=i) (by omega) (fun k=>(a0c c k).1==(a0c c i).1&&(a0c c k).2.1==(a0c c i).2.1&&(a0c c k).2.2.1==(a0c c i).2.2.1) (some false) (e:=g ((i:Int)+1)) (F:=w0C c (a0c c i) (i:Int) g) (fun g3 k hk=>d0T hk (by omega) ⟨oo,fun _=>oo,fun _=>oo,trivial⟩) (fun g3=>by
      refine aE.trans ?_;exact gP ⟨oo,trivial⟩)
     refine(if_pos (by simpa using hi)).trans ?_;rw[e3,gP ⟨oo,trivial⟩,lE,e1,vS,gP ⟨rfl,trivial⟩,inner];unfold A0D;cases a0J c.2.2.1.length (a0l c) (a0c c i) <;> cases(List.range i).any (fun k=>(a0c c k).1==(a0c c i).1&&(a0c c k).2.1==(a0c c i).2.1&&(a0c c k).2.2.1==(a0c c i).2.2.1) <;> rfl) (fun g=>aE)
    refine key.trans ?_;unfold n0e;rw[decide_eq_true g2];cases hany:(List.range c.2.2.2.1.length).any fun i=>!a0J c.2.2.1.length (a0l c) (a0c c i)||A0D (a0c c) i with
    | true=>simp
    | false =>
      rw[if_neg (by simp)];have hall:∀i,i<c.2.2.2.1.length->a0J c.2.2.1.length (a0l c) (a0c c i)=true:=fun i hi=>by
       have:=(b0C (n:=c.2.2.2.1.length)).1 (by rw[hany]; rfl) i hi;rw[Bool.or_eq_false_iff,Bool.not_eq_false'] at this;exact this.1
      have hkin:=H0i c hw g2 (fun i hi=>l0U (hall i hi));obtain⟨n6,ncnt⟩:=f0R (a0c c) c.2.2.2.1.length (fun i hi=>l0U (hall i hi));have c1:=ncnt 1 (by omega);have c2:=ncnt 2 (by omega);have c3:=ncnt 3 (by omega);rw[n0w,hkin,vS,gP ⟨rfl,trivial⟩,lE];generalize fN (h0o (a0c c)) c.2.2.2.1.length (List.replicate 6 0)=v at *
      have q1:((v.getD 1 0)==(0:Int))=!b0j c.2.2.2.1.length (a0c c) 1:=by
       rw[c1,e0h];have:=(h0I (a0c c) 1 c.2.2.2.1.length).1;rw[Bool.eq_iff_iff]; simp; omega
      have q1':decide (0<v.getD 1 0)=b0j c.2.2.2.1.length (a0c c) 1:=by rw[c1,e0h]; rfl
      have q2:decide (0<v.getD 2 0)=b0j c.2.2.2.1.length (a0c c) 2:=by rw[c2,e0h]; rfl
      have q3:decide (0<v.getD 3 0)=b0j c.2.2.2.1.length (a0c c) 3:=by rw[c3,e0h]; rfl
      have q3':((v.getD 3 0)==(0:Int))=!b0j c.2.2.2.1.length (a0c c) 3:=by
       rw[c3,e0h];have:=(h0I (a0c c) 3 c.2.2.2.1.length).1;rw[Bool.eq_iff_iff]; simp; omega
      have i1:ix (1:Int) v.length:=oo;have i2:ix (2:Int) v.length:=oo;have i3:ix (3:Int) v.length:=oo;have n1:Int.toNat (1:Int)<v.length:=by rw[n6]; decide
      have n2:Int.toNat (2:Int)<v.length:=by rw[n6]; decide
      have n3:Int.toNat (3:Int)<v.length:=by rw[n6]; decide
      unfold p0M;by_cases k1:c.2.1=1
      ·rw[if_pos (beq_iff_eq.2 k1),if_pos k1];have ht:=hw.2.2.2.2.1.1;have key2:=b0e (n:=c.2.2.2.2.1.length) ht (fun i=>!inB (c.2.2.2.2.1.getD i 0) 0 1) (some false) (e:=k0y (e0N c.2.2.1.length (a0l c),true) c ()) (F:=w0B c (e0N c.2.2.1.length (a0l c),true)) (fun g i hi=>d0T hi ht ⟨oo,rfl,trivial⟩) (fun g=>aE);refine key2.trans ?_;rw[a0X c.2.2.2.2.1 0 (fun x=>!inB x 0 1),<- c0e];have e5:k0y (e0N c.2.2.1.length (a0l c),true) c ()=some (e0N c.2.2.1.length (a0l c)==0&&(c.2.2.2.2.1.length:Int)==1*2 ^ (c.2.2.1.length-1)):=by
        rw[k0y,c0P (by omega),gP ⟨fun _=>oo,fun _=>oo,fun _=>⟨by omega,x0R h5⟩,trivial⟩]
       rw[e5];cases c.2.2.2.2.1.any fun x=>!inB x 0 1 <;> simp
      ·rw[if_neg (by simpa using k1),if_neg k1];by_cases k2:c.2.1=2
       ·rw[if_pos (beq_iff_eq.2 k2),if_pos k2,gP ⟨fun _=>i1,fun _=>n1,fun _=>i2,fun _=>n2,fun _=>i3,fun _=>n3,trivial⟩];have w1:Int.toNat (1:Int)=1:=rfl;have w2:Int.toNat (2:Int)=2:=rfl;have w3:Int.toNat (3:Int)=3:=rfl;rw[w1,w2,w3,q1,q2,q3];cases e0N c.2.2.1.length (a0l c)==1 <;> cases(c.2.2.2.2.1.length:Int)==0 <;> cases b0j c.2.2.2.1.length (a0c c) 1 <;> cases b0j c.2.2.2.1.length (a0c c) 2 <;> cases b0j c.2.2.2.1.length (a0c c) 3 <;> rfl
       ·rw[if_neg (by simpa using k2),if_neg k2];by_cases k3:c.2.1=3
        ·rw[if_pos (beq_iff_eq.2 k3),if_pos k3,gP ⟨fun _=>i1,fun _=>n1,fun _=>i2,fun _=>n2,fun _=>i3,fun _=>n3,trivial⟩];have w1:Int.toNat (1:Int)=1:=rfl;have w2:Int.toNat (2:Int)=2:=rfl;have w3:Int.toNat (3:Int)=3:=rfl;rw[w1,w2,w3,q1',q2,q3'];cases e0N c.2.2.1.length (a0l c)==1 <;> cases(c.2.2.2.2.1.length:Int)==0 <;> cases b0j c.2.2.2.1.length (a0c c) 1 <;> cases b0j c.2.2.2.1.length (a0c c) 2 <;> cases b0j c.2.2.2.1.length (a0c c) 3 <;> rfl
        ·rw[if_neg (by simpa using k3),if_neg k3];rfl
   ·have e0:(!nmB c.1||decide (8 < (c.2.2.2.1.length:Int))||!inB c.2.2.2.2.2.1 0 100000||!inB c.2.2.2.2.2.2 0 100000)=true:=by
     rw[<- Bool.not_eq_false];intro hc;simp only[Bool.or_eq_false_iff,Bool.not_eq_false',decide_eq_false_iff_not] at hc;exact hgo ⟨hc.1.1.1,by omega,hc.1.2,hc.2⟩
    refine(if_pos (by simpa using e0)).trans ?_;have e1:¬(nmB c.1=true/\decide (c.2.2.2.1.length<=8)=true/\inB c.2.2.2.2.2.1 0 100000=true/\inB c.2.2.2.2.2.2 0 100000=true):=fun hc=>hgo ⟨hc.1,by simpa using hc.2.1,hc.2.2⟩;refine congrArg some ?_;unfold n0e
    symm
    rw[<- Bool.not_eq_true];intro hc;simp only[ba] at hc;exact e1 ⟨hc.1.1.1.1.1,hc.1.1.1.2.1,hc.1.1.2,hc.1.2⟩
abbrev d0C(l:List a0A)(i:Nat):a0A:=l.getD i (a0a y163)
abbrev j0M(l:List a0A):Bool:=t0u l.length (fun i=>d0y a0J (d0C l i)) (fun i=>(d0C l i).1)
theorem s0W{c:a0A}(h:d0y a0J c=true):nmB c.1=true:=by
 have h:d0B a0J _ _ _ _ _ _ _ _ _=true:=h;unfold d0B at h;simp only[ba] at h;exact h.1.1.1.1.1
theorem H0v(l:List a0A)(hw:wf (.sl y163) l)(hm:cnt (.sl y163) l<=1048576):A0r l=some (j0M l):=by
 have h:=hw.1;have hl:=c0t hm;have key:=f0i (n:=l.length) h (fun i (s:List ByteArray)=>(s,(i:Int))) (m0O fun i=>(d0C l i).1) (fun i=>!d0y a0J (d0C l i)) (some false) (fun i s=>s.length=i) (J:=k0C l) (F:=w0N l) (fun g i s hi hI=>by
  have e3:((i:Int)).toNat=i:=rfl;have hc:cnt y163 (d0C l i)<=1048576:=C0O hi hm;have hp:(d0C l i).2.2.1.length<=1048576:=c0t (cF (cS (cS hc)));have e1:=H0l (d0C l i) (e0r hi hw) hp;have ha:=o0W (b:=16) hi hl (by decide);refine(if_pos (by simpa using hi)).trans ?_;rw[e3,gP ⟨oo,trivial⟩,lE,e1,vS,gP ⟨rfl,trivial⟩,gP ⟨⟨by show s.length+1<=_; omega,by show(s.length+1)*16<=_; omega⟩,trivial⟩,gP ⟨oo,trivial⟩];rfl) (fun i s hi hI _=>by unfold m0O; rw[List.length_append,hI]; rfl) (fun g s _=>aE) [] rfl
 refine key.trans ?_;rw[e0g l (a0a y163) (fun c:a0A=>c.1)];have hn:wf (.sl .str) (l.map fun c:a0A=>c.1):=i0n h fun x hx=>(hw.2 x hx).1;have e7:∀v:List ByteArray,wf (.sl .str) v->k0C l v=some (decide (l.length<=8)&&a0B v.length fun i=>v.getD i (a0a .str)):=fun v hv=>by
  have e8:decide ((l.length:Int)<=8)=decide (l.length<=8):=by rw[decide_eq_decide]; omega
  rw[k0C,C0k _ hv,vS,gP ⟨fun _=>rfl,trivial⟩,e8]
 rw[e7 _ hn,c0V l (fun c:a0A=>c.1) (a0a y163)];show _=some (t0u _ _ _);rw[<- C0x (fun i _ hc=>s0W hc)];split <;> rfl
theorem H0y(l:List a0A)(hw:wf (.sl y163) l):A0u l=some (j0M l):=by
 have h:=hw.1;have key:=b0e (n:=l.length) h (fun i=>!d0y a0J (d0C l i)||i0X (fun i=>(d0C l i).1) i) (some false) (e:=n0E l ()) (F:=x0m l) (fun g i hi=>by
  have e3:((i:Int)).toNat=i:=rfl;have e1:=H0n (d0C l i) (e0r hi hw);have inner:=b0e (n:=i) (by omega) (fun k=>decide ((d0C l k).1=(d0C l i).1)) (some false) (e:=g ((i:Int)+1)) (F:=x0l l (i:Int) g) (fun g3 k hk=>d0T hk (by omega) ⟨oo,oo,trivial⟩) (fun g3=>by
   refine aE.trans ?_;exact gP ⟨oo,trivial⟩)
  refine(if_pos (by simpa using hi)).trans ?_;rw[e3,e1,vS,gP ⟨oo,rfl,trivial⟩,inner];unfold i0X;cases d0y a0J (d0C l i) <;> cases(List.range i).any (fun k=>decide ((d0C l k).1=(d0C l i).1)) <;> rfl) (fun g=>aE)
 refine key.trans ?_;show _=some (t0u _ _ _);unfold t0u n0E;have e8:decide ((l.length:Int)<=8)=decide (l.length<=8):=by rw[decide_eq_decide]; omega
 rw[e8];cases(List.range l.length).any (fun i=>!d0y a0J (d0C l i)||i0X (fun i=>(d0C l i).1) i) <;> rfl
abbrev a0d(d:Y31)(i:Nat):a0G:=d.1.getD i (a0a y165)
abbrev a0I(d:Y31)(i:Nat):b0h:=d.2.2.getD i (a0a y175)
abbrev b0v(l:List a0A)(x:Int):Nat:=(l.getD x.toNat (a0a y163)).2.2.1.length
abbrev d0o(l:List a0A)(d:Y31):Bool:=c0I (j0M l) l.length (b0v l) d.1.length d.2.2.length d.2.1.length (a0d d) (a0I d) (fun i=>d.2.1.getD i (a0a .str))
theorem F0D(d:Y31)(hw:wf y31 d)(x:Int):t0W d x=some (inB x 0 ((d.2.1.length:Int)-1)):=by
 have h:=hw.2.1.1;have e:y0O d.2.1=some (d.2.1.length:Int):=rfl;unfold t0W;rw[e]
 repeat rw[vS]
 rw[p0A,vS,gP ⟨rfl,oo,rfl,trivial⟩]
theorem H0t(d:Y31)(l:List a0A)(x:a0G)(hd:wf y31 d)(hl:wf (.sl y163) l)(hx:wf y165 x):A0q d l x=some (c0Y l.length (b0v l) d.2.1.length x):=by
 have h:=hl.1;have hn:=hx.2.2.1;have e:t0T l=some (l.length:Int):=rfl;have e1:∀y,A0m y d=some (!inB y 0 ((d.2.1.length:Int)-1)):=fun y=>by
  unfold A0m;rw[F0D d hd,gP ⟨rfl,trivial⟩,vS]
 have h1:g0y x.2.2 d=_:=b0S hn (fun i=>!inB (x.2.2.getD i 0) 0 ((d.2.1.length:Int)-1)) (fun g i hi=>h0x hi hn (e1 _)) (fun g=>aE);have h2:e0V x.2.2 d=_:=d0l h1;rw[a0X x.2.2 0 (fun y=>!inB y 0 ((d.2.1.length:Int)-1))] at h2;unfold A0q;rw[e,h2]
 repeat rw[vS]
 rw[p0A,vS,gP ⟨rfl,oo,rfl,fun hc=>by
  have:=a0u.1 hc.1;exact oo,fun _=>rfl,trivial⟩,c0e]
 rfl
theorem H0u(d:Y31)(hw:wf y31 d)(hm:cnt y31 d<=1048576):B0X d=some (decide (d.1.length<=14)&&decide (d.2.1.length<=30)&&decide (d.2.2.length<=8)&&a0B d.1.length (fun i=>(a0d d i).1)&&a0B d.2.1.length (fun i=>d.2.1.getD i (a0a .str))&&a0B d.2.2.length (fun i=>(a0I d i).1)):=by
 have hi0:=hw.1.1;have hp0:=hw.2.2.1;have hil:d.1.length<=1048576:=c0t (cF hm);have hpl:d.2.2.length<=1048576:=c0t (cS (cS hm));have key:=lF (n:=d.1.length) hi0 (fun i (s:List ByteArray)=>(s,(i:Int))) (m0O fun i=>(a0d d i).1) (fun i s=>s.length=i) (J:=k0B d) (F:=w0M d) (fun g i s hi hI=>by
  have e3:((i:Int)).toNat=i:=rfl;have ha:=o0W (b:=16) hi hil (by decide);refine(if_pos (by simpa using hi)).trans ?_;rw[e3,gP ⟨oo,trivial⟩,lE,gP ⟨⟨by show s.length+1<=_; omega,by show(s.length+1)*16<=_; omega⟩,trivial⟩,gP ⟨oo,trivial⟩];rfl) (fun i s hi hI=>by unfold m0O; rw[List.length_append,hI]; rfl) (fun g s _=>aE) [] rfl
 refine key.trans ?_;rw[e0g d.1 (a0a y165) (fun c:a0G=>c.1)];have hn1:wf (.sl .str) (d.1.map fun c:a0G=>c.1):=i0n hi0 fun x hx=>(hw.1.2 x hx).1;have hn2:wf (.sl .str) (d.2.2.map fun c:b0h=>c.1):=i0n hp0 fun x hx=>(hw.2.2.2 x hx).1;have e7:∀v:List ByteArray,wf (.sl .str) v->v.length=d.1.length->k0B d v=some (decide (d.1.length<=14)&&decide (d.2.1.length<=30)&&decide (d.2.2.length<=8)&&(a0B v.length fun i=>v.getD i (a0a .str))&&a0B d.2.1.length (fun i=>d.2.1.getD i (a0a .str))&&a0B d.2.2.length (fun i=>(a0I d i).1)):=fun v hv hvl=>by
  rw[k0B];have key2:=lF (n:=d.2.2.length) hp0 (fun i (s:List ByteArray)=>(s,(i:Int))) (m0O fun i=>(a0I d i).1) (fun i s=>s.length=i) (J:=k0A v d) (F:=w0L d v) (fun g i s hi hI=>by
   have e3:((i:Int)).toNat=i:=rfl;have ha:=o0W (b:=16) hi hpl (by decide);refine(if_pos (by simpa using hi)).trans ?_;rw[e3,gP ⟨oo,trivial⟩,lE,gP ⟨⟨by show s.length+1<=_; omega,by show(s.length+1)*16<=_; omega⟩,trivial⟩,gP ⟨oo,trivial⟩];rfl) (fun i s hi hI=>by unfold m0O; rw[List.length_append,hI]; rfl) (fun g s _=>aE) [] rfl
  refine key2.trans ?_;rw[e0g d.2.2 (a0a y175) (fun c:b0h=>c.1)];have e9:∀z:List ByteArray,wf (.sl .str) z->z.length=d.2.2.length->k0A v d z=some (decide (d.1.length<=14)&&decide (d.2.1.length<=30)&&decide (d.2.2.length<=8)&&(a0B v.length fun i=>v.getD i (a0a .str))&&a0B d.2.1.length (fun i=>d.2.1.getD i (a0a .str))&&a0B z.length (fun i=>z.getD i (a0a .str))):=fun z hz hzl=>by
   have a1:decide ((v.length:Int)<=14)=decide (d.1.length<=14):=by rw[decide_eq_decide]; omega
   have a2:decide ((d.2.1.length:Int)<=30)=decide (d.2.1.length<=30):=by rw[decide_eq_decide]; omega
   have a3:decide ((z.length:Int)<=8)=decide (d.2.2.length<=8):=by rw[decide_eq_decide]; omega
   rw[k0A,C0k _ hv,C0k _ hz,C0k _ hw.2.1,vS,vS,vS,gP ⟨fun _=>rfl,fun _=>rfl,fun _=>rfl,trivial⟩,a1,a2,a3]
  rw[e9 _ hn2 (List.length_map _),c0V d.2.2 (fun c:b0h=>c.1) (a0a y175)]
 rw[e7 _ hn1 (List.length_map _),c0V d.1 (fun c:a0G=>c.1) (a0a y165)]
theorem g0K{l:List a0A}(h:j0M l=true){x:Int}(hx:inB x 0 ((l.length:Int)-1)=true):2<=b0v l x/\b0v l x<=5:=by
 have h:t0u _ _ _=true:=h;unfold t0u at h;rw[ba] at h;rw[a0u] at hx;have:=b0C.1 h.1 x.toNat (by omega);rw[Bool.or_eq_false_iff,Bool.not_eq_false'] at this;have hc:d0B a0J _ _ _ _ _ _ _ _ _=true:=this.1;unfold d0B at hc;simp only[ba] at hc;have:=c0T hc.1.1.1.1.2;exact⟨this.1,this.2.1⟩
theorem h0t{nc nn:Nat}{pins:Int->Nat}{x:b0l}(h:c0Y nc pins nn x=true)(hp:∀y,inB y 0 ((nc:Int)-1)=true->2<=pins y):1<=x.2.2.length/\inB (x.2.2.getD (x.2.2.length-1) 0) 0 ((nn:Int)-1)=true:=by
 unfold c0Y at h;simp only[ba,beq_iff_eq] at h;have h2:=hp _ h.1.1;have h3:1<=x.2.2.length:=by omega
 refine⟨h3,?_⟩;rw[gq,List.getElem?_eq_getElem (by omega)];exact List.all_eq_true.1 h.2 _ (List.getElem_mem _)
theorem H0x(l:List a0A)(d:Y31)(hl:wf (.sl y163) l)(hd:wf y31 d):B0Z l d=some (!((List.range d.1.length).any fun i=>!c0Y l.length (b0v l) d.2.1.length (a0d d i))&&!((List.range d.2.2.length).any fun i=>!d0i d.2.1.length (a0I d i))):=by
 have h:=hl.1;have hi0:=hd.1.1;have hp0:=hd.2.2.1;have hn0:=hd.2.1.1;have kj:n0D d ()=some (!((List.range d.2.2.length).any fun i=>!d0i d.2.1.length (a0I d i))):=by
  have key:=b0e (n:=d.2.2.length) hp0 (fun i=>!d0i d.2.1.length (a0I d i)) (some false) (e:=some true) (F:=x0g d) (fun g i hi=>by
   have e3:((i:Int)).toNat=i:=rfl;refine(if_pos (by simpa using hi)).trans ?_;rw[e3,r97,r97,vS,vS,gP ⟨oo,rfl,fun _=>oo,fun _=>oo,fun _=>rfl,trivial⟩,gP ⟨oo,trivial⟩];unfold d0i;rw[Bool.not_and]) (fun g=>aE)
  refine key.trans ?_;cases(List.range d.2.2.length).any fun i=>!d0i d.2.1.length (a0I d i) <;> rfl
 have key:=b0e (n:=d.1.length) hi0 (fun i=>!c0Y l.length (b0v l) d.2.1.length (a0d d i)) (some false) (e:=n0D d ()) (F:=x0i d l) (fun g i hi=>by
  have e3:((i:Int)).toNat=i:=rfl;have hx:=e0r (d:=a0a y165) hi hd.1;have hn:=hx.2.2.1;refine(if_pos (by simpa using hi)).trans ?_;rw[e3,gP ⟨oo,trivial⟩,lE,r97,vS,gP ⟨oo,rfl,fun hc=>by
   have:=hc.1;rw[Bool.not_eq_false'] at this;have:=a0u.1 this;exact oo,trivial⟩]
  have inner:=b0e (n:=(a0d d i).2.2.length) hn (fun k=>!inB ((a0d d i).2.2.getD k 0) 0 ((d.2.1.length:Int)-1)) (some false) (e:=g ((i:Int)+1)) (F:=x0h (a0d d i) d (i:Int) g) (fun g3 k hk=>by
   refine(d0T hk hn ⟨oo,oo,rfl,trivial⟩).trans ?_;rfl) (fun g3=>by
   refine aE.trans ?_;exact gP ⟨oo,trivial⟩)
  rw[a0X (a0d d i).2.2 0 (fun y=>!inB y 0 ((d.2.1.length:Int)-1))] at inner;rw[inner];unfold c0Y;rw[<- c0e];have n1:((((a0d d i).2.2.length:Nat):Int) != ((b0v l (a0d d i).2.1:Nat):Int))=!((((a0d d i).2.2.length:Nat):Int)==((b0v l (a0d d i).2.1:Nat):Int)):=rfl;show(if(!inB (a0d d i).2.1 0 ((l.length:Int)-1)||(((a0d d i).2.2.length:Nat):Int) != ((b0v l (a0d d i).2.1:Nat):Int))=true then some false else if((a0d d i).2.2.any fun y=>!inB y 0 ((d.2.1.length:Int)-1))=true then some false else g ((i:Int)+1))=_;rw[n1];cases inB (a0d d i).2.1 0 ((l.length:Int)-1) <;> cases((((a0d d i).2.2.length:Nat):Int)==((b0v l (a0d d i).2.1:Nat):Int)) <;> cases((a0d d i).2.2.any fun y=>!inB y 0 ((d.2.1.length:Int)-1)) <;> rfl) (fun g=>aE)
 refine key.trans ?_;rw[kj];cases(List.range d.1.length).any fun i=>!c0Y l.length (b0v l) d.2.1.length (a0d d i) <;> rfl
theorem o0d(v:List Int):(!v.any fun x=>x != 1)=v.all (·==1):=c0e v (fun x=>x==1)
theorem r0E{n b:Nat}(h:n<=1048576)(hb:b<=4096):(0<=(n:Int)/\(n:Int)=(n:Int)/\(n:Int).toNat*b<=281474976710656/\(n:Int)<=9223372036854775807)/\True:=by
 have hm:n*b<=1048576*4096:=Nat.mul_le_mul h hb;exact⟨⟨by omega,rfl,by rw[Int.toNat_natCast]; omega,by omega⟩,trivial⟩
theorem l0z{v:List Int}{n b:Nat}{x:Int}(h:f0k v n b)(hb:b<=2097152)(hx:inB x 0 ((n:Int)-1)=true):ix x v.length/\x.toNat<v.length/\a0e (v.getD x.toNat 0+1)/\ix x v.length/\x.toNat<v.length/\True:=by
 obtain⟨h1,h2⟩:=u0W h hx;have:=h.2 x.toNat;exact⟨h1,h2,oo,h1,h2,trivial⟩
theorem j0z{n:Nat}(h1:1<=n)(h:n<=9223372036854775807):a0e ((n:Int)-1)/\ix ((n:Int)-1) n:=⟨oo,oo⟩
theorem H0C(l:List a0A)(d:Y31)(hl:wf (.sl y163) l)(hd:wf y31 d)(ml:cnt (.sl y163) l<=1048576)(md:cnt y31 d<=1048576):A0w l d=some (d0o l d):=by
 have hi0:=hd.1.1;have hp0:=hd.2.2.1;have mi:d.1.length<=1048576:=c0t (cF md);have mn:d.2.1.length<=1048576:=c0t (cF (cS md));have mp:d.2.2.length<=1048576:=c0t (cS (cS md));show _=some (c0I _ _ _ _ _ _ _ _ _);unfold A0w c0I;rw[H0v l hl ml,H0u d hd md,vS,vS,gP ⟨rfl,fun _=>rfl,trivial⟩];cases hlo:j0M l with
 | false=>exact if_pos rfl
 | true =>
   rw[Bool.true_and];cases hno:(decide (d.1.length<=14)&&decide (d.2.1.length<=30)&&decide (d.2.2.length<=8)&&a0B d.1.length (fun i=>(a0d d i).1)&&a0B d.2.1.length (fun i=>d.2.1.getD i (a0a .str))&&a0B d.2.2.length (fun i=>(a0I d i).1)) with
   | false=>exact if_pos rfl
   | true =>
     refine(if_neg (by simp)).trans ?_;rw[gP (r0E mn (by decide)),Int.toNat_natCast];have hpin:∀y,inB y 0 ((l.length:Int)-1)=true->2<=b0v l y:=fun y hy=>(g0K hlo hy).1;have key:=f0i (n:=d.1.length) hi0 (fun i (v:List Int)=>((i:Int),v)) (d0N (a0d d)) (fun i=>!c0Y l.length (b0v l) d.2.1.length (a0d d i)) (some false) (fun i v=>i<=d.1.length/\f0k v d.2.1.length i) (J:=n0H d) (F:=x0v d l) (fun g i v hi hI=>by
      have e3:((i:Int)).toNat=i:=rfl;have hx:=e0r (d:=a0a y165) hi hd.1;refine(if_pos (by simpa using hi)).trans ?_;rw[e3,gP ⟨oo,trivial⟩,lE,H0t d l _ hd hl hx,vS,gP ⟨rfl,trivial⟩];cases hin:c0Y l.length (b0v l) d.2.1.length (a0d d i) with
      | false=>rfl
      | true =>
        obtain⟨g1,g2⟩:=h0t hin hpin;have hlen:(a0d d i).2.2.length<=9223372036854775807:=hx.2.2.1;refine(if_neg (by simp)).trans ?_;rw[c0P g1,gP ⟨(j0z g1 hlen).1,(j0z g1 hlen).2,l0z hI.2 (by omega) g2⟩,lE,gP ⟨oo,trivial⟩];rfl) (fun i v hi hI _=>⟨by omega,c0W hI.2 _⟩) (fun g v _=>aE) (List.replicate d.2.1.length 0) ⟨by omega,f0j _ _⟩
     refine key.trans ?_;cases hia:(List.range d.1.length).any fun i=>!c0Y l.length (b0v l) d.2.1.length (a0d d i) with
     | true=>simp
     | false =>
       refine(if_neg (by simp)).trans ?_;have hlow:=h0v (a0d d) d.2.1.length d.1.length;unfold g0n;generalize fN (d0N (a0d d)) d.1.length (List.replicate d.2.1.length 0)=v0 at *
       rw[n0H];have key2:=f0i (n:=d.2.2.length) hp0 (fun i (v:List Int)=>((i:Int),v)) (c0x (a0I d)) (fun i=>!d0i d.2.1.length (a0I d i)) (some false) (fun i v=>i<=d.2.2.length/\f0k v d.2.1.length (d.1.length+i)) (J:=k0G) (F:=x0u d) (fun g i v hi hI=>by
        have e3:((i:Int)).toNat=i:=rfl;have j4:∀v',n0G (i:Int) g v'=g (((i+1:Nat):Int),v'):=fun v'=>gP ⟨oo,trivial⟩;refine(if_pos (by simpa using hi)).trans ?_;rw[e3,gP ⟨oo,trivial⟩,lE,F0D d hd,vS,gP ⟨fun _=>rfl,trivial⟩,j4,j4];have e5:((a0I d i).2.1 != 1&&(a0I d i).2.1 != 2||!inB (a0I d i).2.2 0 ((d.2.1.length:Int)-1))=!d0i d.2.1.length (a0I d i):=by
         unfold d0i;rw[Bool.not_and];congr 1;rw[Bool.eq_iff_iff];simp only[ba,bne_iff_ne,Bool.not_eq_true',<- Bool.not_eq_true,a0u];omega
        show(if((a0I d i).2.1 != 1&&(a0I d i).2.1 != 2||!inB (a0I d i).2.2 0 ((d.2.1.length:Int)-1))=true then some false else _)=_;rw[e5];cases hpo:d0i d.2.1.length (a0I d i) with
        | false=>rfl
        | true =>
          have hnet:inB (a0I d i).2.2 0 ((d.2.1.length:Int)-1)=true:=by
           unfold d0i at hpo;rw[ba] at hpo;exact hpo.2
          refine(if_neg (by simp)).trans ?_;show _=g (_,c0x (a0I d) i v);unfold c0x;by_cases k1:(a0I d i).2.1=1
          ·rw[if_pos (beq_iff_eq.2 k1),if_pos k1];exact gP (l0z hI.2 (by omega) hnet)
          ·rw[if_neg (by simpa using k1),if_neg k1]) (fun i v hi hI _=>⟨by omega,by
          unfold c0x;split
          ·exact c0W hI.2 _
          ·exact j0K hI.2 (by omega)⟩) (fun g v _=>aE) v0 ⟨by omega,hlow⟩
       refine key2.trans ?_;cases hpa:(List.range d.2.2.length).any fun i=>!d0i d.2.1.length (a0I d i) with
       | true=>simp
       | false =>
         refine(if_neg (by simp)).trans ?_;have hv:∀v:List Int,v.length<=9223372036854775807->k0G v=some (v.all (·==1)):=fun v hv=>by
          have h1:g0B v=_:=b0S hv (fun i=>v.getD i 0 != 1) (fun g i hi=>h0x hi hv rfl) (fun g=>aE);have h2:e0X v=_:=d0l h1;rw[a0X v 0 (fun x=>x != 1)] at h2;rw[k0G,h2,vS,gP ⟨rfl,trivial⟩,o0d]
         have hlen:(fN (c0x (a0I d)) d.2.2.length v0).length<=9223372036854775807:=by
          have:∀n,(fN (c0x (a0I d)) n v0).length=v0.length:=by
           intro n
           induction n with
           | zero=>rfl
           | succ n ih =>
             rw[fN];unfold c0x;split
             ·unfold h0w; rw[List.length_set]; exact ih
             ·exact ih
          rw[this,hlow.1]; omega
         rw[hv _ hlen];rfl
end Go.Proofs.YtphnknndgfgepaaGreatDoor
end
