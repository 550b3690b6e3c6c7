/- Cells: what the program's functions and the reference's say of them. -/
import Derived.Test.YtphnknndgfgepaaGreatDoorWC
import Derived.Test.YtphnknndgfgepaaGreatDoorWB
section
namespace Go.Proofs.YtphnknndgfgepaaGreatDoor
open Go Go.Proofs Go.Proofs.Sv Go.Proofs.Xv Go.Proofs.Xl Go.Proofs.Xd
abbrev a0l(c:a0y)(i:Nat):f0v:=c.2.2.1.getD i (a0a y217)
abbrev a0d(c:a0y)(i:Nat):c0f:=c.2.2.2.1.getD i (a0a y143)
theorem E0l(c:a0y)(hw:wf y163 c):k0o c=some ((c.2.2.1.length:Int)-1):=by
 have h:=hw.2.2.1.1;have e:q0M c.2.2.1=some (c.2.2.1.length:Int):=rfl;unfold k0o;rw[e,vS,gP ⟨rfl,oo,trivial⟩,lE]
theorem F0q(c:a0y)(hw:wf y163 c)(x:Int):t0P c x=some (inB x 0 ((c.2.2.1.length:Int)-1-1)):=by
 have h:=hw.2.2.1.1;unfold t0P;rw[E0l c hw,vS,p0A,vS,gP ⟨rfl,oo,rfl,trivial⟩]
theorem G0O(c:a0y)(hw:wf y163 c):A0f c=some (y0j c.2.2.1.length (a0l c)):=by
 have h:=hw.2.2.1.1;have h1:g0u c.2.2.1=_:=b0S h (fun i=>(a0l c i).2.2.2) (fun g i hi=>h0y hi h rfl) (fun g=>aE);unfold A0f;rw[h1,vS,gP ⟨rfl,trivial⟩,lE];rfl
theorem E0k(c:a0y)(hw:wf y163 c)(k:Int):g0c c k=some (b0s c.2.2.2.1.length (a0d c) k):=by
 have h:=hw.2.2.2.1.1;have h1:g0v c.2.2.2.1 k=_:=b0S h (fun i=>(a0d c i).1==k) (fun g i hi=>h0y hi h rfl) (fun g=>aE);have h2:e0Q c.2.2.2.1 k=_:=d0k h1;unfold g0c;rw[h2,vS,gP ⟨rfl,trivial⟩];rfl
theorem G0Q(c:a0y)(a:c0f)(hc:wf y163 c)(ha:wf y143 a):w0j c a=some (f0l c.2.2.1.length (a0l c) a):=by
 obtain⟨_,_,_,_,hd,hs⟩:=ha;have ek:B0C a.1=some (a.1==4||a.1==5):=rfl;have hg:inB a.2.1 0 ((c.2.2.1.length:Int)-1-1)=true->ix a.2.1 c.2.2.1.length:=fun h=>by
  rw[a0s] at h; exact oo
 unfold w0j;rw[ek,E0j _ _ hd,E0j _ _ hd,E0j _ _ hs,G0O c hc,F0q c hc,F0q c hc,E0l c hc]
 repeat rw[vS]
 rw[gP ⟨rfl,trivial⟩];unfold f0l;by_cases k45:a.1=4∨a.1=5
 ·have e1:(a.1==4||a.1==5)=true:=by simpa using k45
  rw[if_pos e1,if_pos k45,gP ⟨fun _=>rfl,fun _=>rfl,fun _=>rfl,trivial⟩,lE]
 ·have e1:(a.1==4||a.1==5)=false:=by
   rw[<- Bool.not_eq_true]; simpa using k45
  rw[e1,if_neg (by simp),if_neg k45,gP ⟨rfl,fun _=>rfl,fun _=>rfl,fun _=>rfl,trivial⟩,lE];by_cases hgo:a0m a.2.2.2.2.1 true=true/\a0m a.2.2.2.2.2 true=true/\a.2.2.1=(c.2.2.1.length:Int)-1/\inB a.2.1 0 ((c.2.2.1.length:Int)-1-1)=true
  ·obtain⟨g1,g2,g3,g4⟩:=hgo;have e3:(a0m a.2.2.2.2.1 true&&a0m a.2.2.2.2.2 true&&a.2.2.1==(c.2.2.1.length:Int)-1&&inB a.2.1 0 ((c.2.2.1.length:Int)-1-1))=true:=by
    rw[g1,g2,g4,g3]; simp
   have e2:(!a0m a.2.2.2.2.1 true||!a0m a.2.2.2.2.2 true||a.2.2.1 != (c.2.2.1.length:Int)-1||!inB a.2.1 0 ((c.2.2.1.length:Int)-1-1))=false:=by
    rw[g1,g2,g4,g3]; simp
   rw[e3,Bool.true_and];refine(if_neg (by rw[e2]; simp)).trans ?_;by_cases k1:a.1=1
   ·rw[if_pos (beq_iff_eq.2 k1),if_pos k1,p0A,gP ⟨hg g4,fun _=>rfl,trivial⟩];rfl
   ·rw[if_neg (by simpa using k1),if_neg k1];have j:∀b,k0p c a b=some (if b=true then(a0l c a.2.1.toNat).2.2.2&&a.2.2.2.1==0 else false):=fun b=>by
     unfold k0p;cases b with
     | false=>rfl
     | true=>rw[if_pos rfl,if_pos rfl,gP ⟨hg g4,trivial⟩]
    by_cases k2:a.1=2
    ·rw[if_pos (beq_iff_eq.2 k2),if_pos (.inl k2),j,beq_iff_eq.2 k2]; rfl
    ·rw[if_neg (by simpa using k2),j];by_cases k3:a.1=3
     ·rw[beq_iff_eq.2 k3,if_pos rfl,if_pos (.inr k3)]
     ·rw[beq_eq_false_iff_ne.2 k3,if_neg (by simp),if_neg (by omega)]
  ·have e2:(!a0m a.2.2.2.2.1 true||!a0m a.2.2.2.2.2 true||a.2.2.1 != (c.2.2.1.length:Int)-1||!inB a.2.1 0 ((c.2.2.1.length:Int)-1-1))=true:=by
    rw[<- Bool.not_eq_false];intro h;simp only[Bool.or_eq_false_iff,Bool.not_eq_false',bne_eq_false_iff_eq] at h;exact hgo ⟨h.1.1.1,h.1.1.2,h.1.2,h.2⟩
   have e3:(a0m a.2.2.2.2.1 true&&a0m a.2.2.2.2.2 true&&a.2.2.1==(c.2.2.1.length:Int)-1&&inB a.2.1 0 ((c.2.2.1.length:Int)-1-1))=false:=by
    rw[<- Bool.not_eq_true];intro h;simp only[ba,beq_iff_eq] at h;exact hgo ⟨h.1.1.1,h.1.1.2,h.1.2,h.2⟩
   rw[e3,Bool.false_and];exact if_pos e2
theorem G0W(c:a0y)(a:c0f)(hc:wf y163 c)(ha:wf y143 a):A0g c a=some (a0J c.2.2.1.length (a0l c) a):=by
 obtain⟨_,_,_,_,hd,hs⟩:=ha;have h:=hc.2.2.1.1;unfold A0g;rw[gP ⟨oo,trivial⟩,r97,r97]
 repeat rw[vS]
 rw[gP ⟨oo,rfl,fun _=>rfl,trivial⟩];unfold a0J;by_cases hgo:inB a.2.1 0 ((c.2.2.1.length:Int)-1-1)=true/\inB a.2.2.1 0 ((c.2.2.1.length:Int)-1)=true
 ·obtain⟨g1,g2⟩:=hgo;have b1:=a0s.1 g1;have b2:=a0s.1 g2;rw[g1,g2,if_neg (by simp),gP ⟨oo,trivial⟩,lE,Bool.true_and,Bool.true_and];by_cases k1:a.1=1
  ·rw[if_pos (beq_iff_eq.2 k1),if_pos k1,r97,C0c _ _ hd,C0c _ _ hs,gP ⟨fun _=>rfl,fun _=>rfl,fun _=>rfl,trivial⟩];rfl
  ·rw[if_neg (by simpa using k1),if_neg k1];have j1:∀b,g0P (a0l c a.2.1.toNat) a c b=some (if b=true then(a0l c a.2.1.toNat).2.2.2&&decide (a.2.2.1 < (c.2.2.1.length:Int)-1)&&!(a0l c a.2.2.1.toNat).2.2.2&&a.2.2.2.1==0&&a0m a.2.2.2.2.1 false&&(a.2.2.2.2.2.length:Int)==0 else false):=fun b=>by
    unfold g0P;cases b with
    | false=>rfl
    | true =>
      rw[if_pos rfl,if_pos rfl,C0c _ _ hd,gP ⟨fun _=>oo,fun _=>rfl,trivial⟩];rfl
   have j0:∀b,k0s (a0l c a.2.1.toNat) a c b=some (if b=true then(a0l c a.2.1.toNat).2.2.2&&a.2.2.1==(c.2.2.1.length:Int)-1&&a.2.2.2.1==0&&a0m a.2.2.2.2.1 true&&a0m a.2.2.2.2.2 true else if a.1=4∨a.1=5 then(a0l c a.2.1.toNat).2.2.2&&decide (a.2.2.1 < (c.2.2.1.length:Int)-1)&&!(a0l c a.2.2.1.toNat).2.2.2&&a.2.2.2.1==0&&a0m a.2.2.2.2.1 false&&(a.2.2.2.2.2.length:Int)==0 else false):=fun b=>by
    unfold k0s;cases b with
    | true =>
      rw[if_pos rfl,if_pos rfl,C0c _ _ hd,C0c _ _ hs,gP ⟨fun _=>rfl,fun _=>rfl,trivial⟩];rfl
    | false =>
      show(if(a.1==4)=true then g0P (a0l c a.2.1.toNat) a c (a.1==4) else g0P (a0l c a.2.1.toNat) a c (a.1==5))=some (if a.1=4∨a.1=5 then _ else false);by_cases k4:a.1=4
      ·rw[if_pos (beq_iff_eq.2 k4),j1,beq_iff_eq.2 k4,if_pos rfl,if_pos (.inl k4)]
      ·rw[if_neg (by simpa using k4),j1];by_cases k5:a.1=5
       ·rw[beq_iff_eq.2 k5,if_pos rfl,if_pos (.inr k5)]
       ·rw[beq_eq_false_iff_ne.2 k5,if_neg (by simp),if_neg (by omega)]
   by_cases k2:a.1=2
   ·rw[if_pos (beq_iff_eq.2 k2),if_pos (.inl k2)];refine(j0 _).trans ?_;rw[beq_iff_eq.2 k2]; rfl
   ·rw[if_neg (by simpa using k2)];refine(j0 _).trans ?_;by_cases k3:a.1=3
    ·rw[beq_iff_eq.2 k3,if_pos rfl,if_pos (.inr k3)]
    ·rw[beq_eq_false_iff_ne.2 k3,if_neg (by simp),if_neg (by omega:¬(a.1=2∨a.1=3))]
 ·have e2:(!inB a.2.1 0 ((c.2.2.1.length:Int)-1-1)||!inB a.2.2.1 0 ((c.2.2.1.length:Int)-1))=true:=by
   rw[<- Bool.not_eq_false];intro h;simp only[Bool.or_eq_false_iff,Bool.not_eq_false'] at h;exact hgo h
  have e3:(inB a.2.1 0 ((c.2.2.1.length:Int)-1-1)&&inB a.2.2.1 0 ((c.2.2.1.length:Int)-1))=false:=by
   rw[<- Bool.not_eq_true];intro h;rw[ba] at h;exact hgo h
  rw[e3,Bool.false_and];exact if_pos e2
theorem m0h{c:a0y}(hw:wf y163 c):wf (.sl y217) c.2.2.1:=hw.2.2.1
theorem m0i{c:a0y}(hw:wf y163 c):wf (.sl y143) c.2.2.2.1:=hw.2.2.2.1
theorem c0U{α:Type}(l:List α)(f:α->ByteArray)(d:α)(e:ByteArray):a0B (l.map f).length (fun i=>(l.map f).getD i e)=a0B l.length fun i=>f (l.getD i d):=by
 rw[List.length_map];exact l0l fun i hi=>s0u f l i d e hi
theorem i0n{α:Type}{l:List α}{f:α->ByteArray}(h:l.length<=9223372036854775807)(hf:∀x∈l,(f x).size<=9223372036854775807):wf (.sl .str) (l.map f):=by
 refine⟨by rw[List.length_map]; exact h,fun x hx=>?_⟩;obtain⟨y,hy,rfl⟩:=List.mem_map.1 hx;exact hf y hy
def m0P(f:Nat->ByteArray)(i:Nat)(s:List ByteArray):List ByteArray:=s++[f i]
theorem s0x(f:Nat->ByteArray):∀n,fN (m0P f) n []=(List.range n).map f
 | 0=>rfl
 | n+1=>by
   rw[fN,s0x f n,List.range_succ,List.map_append]; rfl
theorem e0a{α:Type}(l:List α)(d:α)(f:α->ByteArray):fN (m0P fun i=>f (l.getD i d)) l.length []=l.map f:=by
 rw[s0x,r0G]
theorem o0W{n i b:Nat}(h:i<n)(hn:n<=1048576)(hb:b<=4096):i+1<=9223372036854775807/\(i+1)*b<=140737488355328:=by
 have:(i+1)*b<=1048576*4096:=Nat.mul_le_mul (by omega) hb;exact oo
theorem G0U(l:List f0v)(hw:wf (.sl y217) l)(hm:l.length<=1048576):t0R l=some (c0t l.length fun i=>l.getD i (a0a y217)):=by
 have h:=hw.1;have key:=f0f (n:=l.length) h (fun i (s:List ByteArray)=>(s,(i:Int))) (m0P fun i=>(l.getD i (a0a y217)).1) (fun i=>!q0i l.length (l.getD i (a0a y217)) i) (some false) (fun i s=>s.length=i) (J:=k0q l) (F:=w0o l) (fun g i s hi hI=>by
  refine(if_pos (by simpa using hi)).trans ?_;have e3:((i:Int)).toNat=i:=rfl;have hs:(s++[(l.getD i (a0a y217)).1]).length<=9223372036854775807:=by rw[List.length_append]; show s.length+1<=_; omega
  have ha:=o0W (b:=16) hi hm (by decide);have j2:∀s',n0t (i:Int) g s'=g (s',((i+1:Nat):Int)):=fun s'=>gP ⟨oo,trivial⟩;rw[e3,gP ⟨oo,trivial⟩,lE,gP ⟨⟨by show s.length+1<=_; omega,by show(s.length+1)*16<=_; omega⟩,trivial⟩,gP ⟨oo,trivial⟩,j2,p0A,gP ⟨fun _=>rfl,trivial⟩,vS];unfold q0i m0P;dsimp only;by_cases hl:i+1=l.length
  ·have e1:((i:Int)==(l.length:Int)-1)=true:=by rw[beq_iff_eq]; omega
   rw[if_pos e1,if_pos hl];generalize l.getD i (a0a y217)=q;have n1:(q.2.1 != 2)=!(q.2.1==2):=rfl;have n2:(q.2.2.1 != 0)=!(q.2.2.1==0):=rfl;rw[n1,n2];cases c2:q.2.2.1==0 with
   | true =>
     have c3:inB q.2.2.1 0 500=true:=by rw[beq_iff_eq.1 c2]; rfl
     rw[c3];cases q.2.1==2 <;> cases q.2.2.2 <;> rfl
   | false=>cases inB q.2.2.1 0 500 <;> cases q.2.1==2 <;> cases q.2.2.2 <;> rfl
  ·have e1:¬((i:Int)==(l.length:Int)-1)=true:=by rw[beq_iff_eq]; omega
   rw[if_neg e1,if_neg hl];generalize l.getD i (a0a y217)=q;have e4:(q.2.1 != 1||!inB q.2.2.1 0 500)=!(inB q.2.2.1 0 500&&q.2.1==1):=by
    rw[Bool.not_and,Bool.or_comm]; rfl
   rw[e4]) (fun i s hi hI _=>by unfold m0P; rw[List.length_append,hI]; rfl) (fun g s _=>aE) [] rfl
 refine key.trans ?_;rw[e0a];have hn:wf (.sl .str) (l.map fun q:f0v=>q.1):=i0n h fun x hx=>(hw.2 x hx).1;have e5:q0M l=some (l.length:Int):=rfl;have e7:∀v:List ByteArray,wf (.sl .str) v->k0q l v=some (inB (l.length:Int) 2 5&&a0B v.length fun i=>v.getD i (a0a .str)):=fun v hv=>by
  rw[k0q];rw[e5,C0d _ hv]
  repeat rw[vS]
  rw[p0A,vS,gP ⟨rfl,rfl,fun _=>rfl,trivial⟩]
 rw[e7 _ hn,c0U l (fun q:f0v=>q.1) (a0a y217)];unfold c0t;have e6:inB (l.length:Int) 2 5=(decide (2<=l.length)&&decide (l.length<=5)):=by
  rw[Bool.eq_iff_iff,a0s]; simp; omega
 rw[e6];cases(List.range l.length).any fun i=>!q0i l.length (l.getD i (a0a y217)) i
 ·simp
 ·simp
theorem G0X(c:a0y)(hw:wf y163 c):B0L c=some (if c0t c.2.2.1.length (a0l c)=true then(e0J c.2.2.1.length (a0l c),true) else(0,false)):=by
 have hp:=m0h hw;have h:=hp.1;unfold B0L;by_cases hr:2<=c.2.2.1.length/\c.2.2.1.length<=5
 ·have e0:(decide ((c.2.2.1.length:Int)<2)||decide (5 < (c.2.2.1.length:Int)))=false:=by
   rw[<- Bool.not_eq_true]; simp; omega
  rw[e0,if_neg (by simp)];have key:=f0f (n:=c.2.2.1.length) h (fun i (s:Int)=>(s,(i:Int))) (fun i s=>if(a0l c i).2.2.2=true then s+1 else s) (fun i=>(!nmB (a0l c i).1||h0X (fun i=>(a0l c i).1) i)||!q0i c.2.2.1.length (a0l c i) i) (some ((0:Int),false)) (fun i s=>0<=s/\s<=i) (J:=q0P) (F:=w0t c) (fun g i s hi hI=>by
   refine(if_pos (by simpa using hi)).trans ?_;have e3:((i:Int)).toNat=i:=rfl;have hs:(a0l c i).1.size<=9223372036854775807:=(e0n (d:=a0a y217) hi hp).1;rw[e3,gP ⟨oo,trivial⟩,lE];have inner:=b0f (n:=i) (by omega) (fun k=>decide ((a0l c k).1=(a0l c i).1)) (some ((0:Int),false)) (e:=n0u (i:Int) s (a0l c i) c g ()) (F:=w0s c (a0l c i) (i:Int) s g) (fun g3 k hk=>d0N hk (by omega) ⟨oo,trivial⟩) (fun g3=>aE);refine inner.trans ?_;have j3:n0u (i:Int) s (a0l c i) c g ()=if(!nmB (a0l c i).1||!q0i c.2.2.1.length (a0l c i) i)=true then some ((0:Int),false) else g (if(a0l c i).2.2.2=true then s+1 else s,((i+1:Nat):Int)):=by
    have j2:∀s',n0v (i:Int) g s'=g (s',((i+1:Nat):Int)):=fun s'=>gP ⟨oo,trivial⟩;show gd _ (if(!vl (m0o (a0l c i).1)||!vl (u97 (a0l c i).2.2.1 0 500))=true then _ else gd _ (if _=true then _ else if _=true then gd _ _ else _))=_;rw[E0m _ hs,r97,vS,vS,gP ⟨rfl,fun _=>rfl,trivial⟩,gP ⟨oo,fun _=>oo,trivial⟩,gP ⟨oo,trivial⟩,j2,j2];generalize a0l c i=q;have hx:((i:Int)==(c.2.2.1.length:Int)-1)=decide (i+1=c.2.2.1.length):=by
     rw[Bool.eq_iff_iff,beq_iff_eq,dq]; omega
    have hy:decide ((i:Int) < (c.2.2.1.length:Int)-1)=!decide (i+1=c.2.2.1.length):=by
     rw[Bool.eq_iff_iff]; simp; omega
    rw[hx,hy];have hz:q0i c.2.2.1.length q i=(inB q.2.2.1 0 500&&(if decide (i+1=c.2.2.1.length)=true then q.2.1==2&&q.2.2.1==0&&!q.2.2.2 else q.2.1==1)):=by
     unfold q0i;by_cases hq:i+1=c.2.2.1.length
     ·rw[if_pos hq,decide_eq_true hq,if_pos rfl]
     ·rw[if_neg hq,decide_eq_false hq,if_neg (by simp)]
    rw[hz];have n1:(q.2.1 != 2)=!(q.2.1==2):=rfl;have n2:(q.2.2.1 != 0)=!(q.2.2.1==0):=rfl;have n3:(q.2.1 != 1)=!(q.2.1==1):=rfl;rw[n1,n2,n3];cases nmB q.1 <;> cases inB q.2.2.1 0 500 <;> cases decide (i+1=c.2.2.1.length) <;> cases q.2.1==2 <;> cases q.2.2.1==0 <;> cases q.2.1==1 <;> cases q.2.2.2 <;> rfl
   rw[j3];have hd:h0X (fun i=>(a0l c i).1) i=(List.range i).any fun k=>decide ((a0l c k).1=(a0l c i).1):=rfl;rw[hd];cases nmB (a0l c i).1 <;> cases q0i c.2.2.1.length (a0l c i) i <;> cases(List.range i).any (fun k=>decide ((a0l c k).1=(a0l c i).1)) <;> rfl) (fun i s hi hI _=>by
   have hI':0<=s/\s<=(i:Int):=hI;show 0<=(if(a0l c i).2.2.2=true then s+1 else s)/\(if(a0l c i).2.2.2=true then s+1 else s)<=((i+1:Nat):Int);split <;> omega) (fun g s _=>aE) 0 oo
  refine key.trans ?_;rw[o0Y];unfold c0t a0B;rw[decide_eq_true hr.1,decide_eq_true hr.2];cases(List.range c.2.2.1.length).any (fun i=>!nmB (a0l c i).1||h0X (fun i=>(a0l c i).1) i) <;> cases(List.range c.2.2.1.length).any (fun i=>!q0i c.2.2.1.length (a0l c i) i) <;> rfl
 ·have e0:(decide ((c.2.2.1.length:Int)<2)||decide (5 < (c.2.2.1.length:Int)))=true:=by
   simp; omega
  have e1:¬c0t c.2.2.1.length (a0l c)=true:=fun hc=>by
   obtain⟨h1,h2,_⟩:=c0T hc;exact hr ⟨h1,h2⟩
  rw[if_pos e0,if_neg e1]
theorem G0T(c:a0y)(hw:wf y163 c):w0n c=some (n0f (f0l c.2.2.1.length (a0l c)) c.2.2.2.1.length (a0d c)):=by
 have ha:=m0i hw;have h:=ha.1;have hA:∀(xs:List c0f) (o:c0f),xs.length<=9223372036854775807->d0P xs o=some (xs.any fun x=>x.1==o.1&&x.2.1==o.2.1&&x.2.2.1==o.2.2.1):=fun xs o hx=>by
  have h1:g0w xs o=_:=b0S hx (fun i=>(xs.getD i (a0a y143)).1==o.1&&(xs.getD i (a0a y143)).2.1==o.2.1&&(xs.getD i (a0a y143)).2.2.1==o.2.2.1) (fun g i hi=>h0y hi hx rfl) (fun g=>aE);have h2:d0P xs o=_:=d0k h1;rw[a0W xs (a0a y143) (fun x=>x.1==o.1&&x.2.1==o.2.1&&x.2.2.1==o.2.2.1)] at h2;exact h2
 have key:=b0f (n:=c.2.2.2.1.length) h (fun i=>!f0l c.2.2.1.length (a0l c) (a0d c i)||A0A (a0d c) i) (some false) (e:=n0s c ()) (F:=w0m c) (fun g i hi=>by
  have e3:((i:Int)).toNat=i:=rfl;have hl:(c.2.2.2.1.take i).length<=9223372036854775807:=by rw[List.length_take]; omega
  have e1:=G0Q c (a0d c i) hw (e0n hi ha);have e2:=hA (c.2.2.2.1.take i) (a0d c i) hl;rw[r0m c.2.2.2.1 (a0a y143) _ i (by omega)] at e2;refine(if_pos (by simpa using hi)).trans ?_;rw[e3,gP ⟨oo,trivial⟩,lE,e1,e2,vS,vS,gP ⟨rfl,fun _=>⟨by omega,by omega,by omega⟩,fun _=>rfl,trivial⟩,gP ⟨oo,trivial⟩];rfl) (fun g=>aE)
 refine key.trans ?_;unfold n0f n0s;have e:decide ((c.2.2.2.1.length:Int)<=8)=decide (c.2.2.2.1.length<=8):=by rw[decide_eq_decide]; omega
 rw[e];cases(List.range c.2.2.2.1.length).any fun i=>!f0l c.2.2.1.length (a0l c) (a0d c i)||A0A (a0d c) i
 ·simp
 ·simp
theorem c0P{n:Nat}(h:1<=n):((n:Int)-1).toNat=n-1:=by omega
theorem G0S(c:a0y)(hw:wf y163 c)(h2:2<=c.2.2.1.length)(h5:c.2.2.1.length<=5):B0G c=some (p0O c.2.1 c.2.2.1.length (a0l c) c.2.2.2.1.length (a0d c) c.2.2.2.2.1):=by
 have hp:=m0h hw;have h:=hp.1;have ht:=hw.2.2.2.2.1.1;have key:=lF (n:=c.2.2.1.length) h (fun i (s:Int)=>(s,(i:Int))) (fun i s=>if(a0l c i).2.2.2=true then s+1 else s) (fun i s=>0<=s/\s<=i) (J:=i0u c) (F:=w0l c) (fun g i s hi hI=>by
  have j2:∀s',n0r (i:Int) g s'=g (s',((i+1:Nat):Int)):=fun s'=>gP ⟨oo,trivial⟩;have e3:((i:Int)).toNat=i:=rfl;refine(if_pos (by simpa using hi)).trans ?_;rw[e3,gP ⟨oo,trivial⟩,lE,gP ⟨oo,trivial⟩,j2,j2];show(if(a0l c i).2.2.2=true then _ else _)=g (if(a0l c i).2.2.2=true then s+1 else s,_);split <;> rfl) (fun i s hi hI=>by
  have hI':0<=s/\s<=(i:Int):=hI;show 0<=(if(a0l c i).2.2.2=true then s+1 else s)/\(if(a0l c i).2.2.2=true then s+1 else s)<=((i+1:Nat):Int);split <;> omega) (fun g s _=>aE) 0 oo
 refine key.trans ?_;show i0u c (e0J c.2.2.1.length (a0l c))=_;have hk:∀k0:Int,i0u c k0=some (if c.2.1=1 then k0==0&&(c.2.2.2.2.1.length:Int)==1*2 ^ (c.2.2.1.length-1)&&c.2.2.2.2.1.all (inB · 0 1)
  else if c.2.1=2 then k0==1&&(c.2.2.2.2.1.length:Int)==0&&!b0s c.2.2.2.1.length (a0d c) 1&&!(b0s c.2.2.2.1.length (a0d c) 2==b0s c.2.2.2.1.length (a0d c) 3)
  else if c.2.1=3 then k0==1&&(c.2.2.2.2.1.length:Int)==0&&b0s c.2.2.2.1.length (a0d c) 1&&b0s c.2.2.2.1.length (a0d c) 2&&!b0s c.2.2.2.1.length (a0d c) 3
  else false):=fun k0=>by
  rw[i0u,E0l c hw,A0v _ _ _ ht,E0k c hw,E0k c hw,E0k c hw]
  repeat rw[vS]
  rw[c0P (by omega)];by_cases k1:c.2.1=1
  ·rw[if_pos (beq_iff_eq.2 k1),if_pos k1,gP ⟨fun _=>rfl,fun _=>⟨by omega,x0R h5⟩,fun _=>rfl,trivial⟩,lE,c0P (by omega)]
  ·rw[if_neg (by simpa using k1),if_neg k1];by_cases k2:c.2.1=2
   ·rw[if_pos (beq_iff_eq.2 k2),if_pos k2,gP ⟨fun _=>rfl,fun _=>rfl,fun _=>rfl,trivial⟩]
   ·rw[if_neg (by simpa using k2),if_neg k2];by_cases k3:c.2.1=3
    ·rw[if_pos (beq_iff_eq.2 k3),if_pos k3,gP ⟨fun _=>rfl,fun _=>rfl,fun _=>rfl,trivial⟩]
    ·rw[if_neg (by simpa using k3),if_neg k3]
 exact hk (e0J c.2.2.1.length (a0l c))
abbrev d0u(q:Nat->(Nat->i0l)->e0I->Bool)(c:a0y):Bool:=c0z q c.1 c.2.1 c.2.2.1.length (a0l c) c.2.2.2.1.length (a0d c) c.2.2.2.2.1 c.2.2.2.2.2.1 c.2.2.2.2.2.2
theorem G0Y(c:a0y)(hw:wf y163 c)(hm:c.2.2.1.length<=1048576):A0i c=some (d0u a0J c):=by
 have hp:=m0h hw;show _=some (c0z a0J _ _ _ _ _ _ _ _ _);rw[<- z0P];unfold A0i c0z;rw[F0A c.1 hw.1,G0U _ hp hm,G0T c hw,p0A,p0A]
 repeat rw[vS]
 cases hpo:c0t c.2.2.1.length (a0l c) with
 | false =>
   rw[gP ⟨rfl,fun _=>rfl,fun hc=>by simp at hc,fun hc=>by simp at hc,fun hc=>by simp at hc,fun hc=>by simp at hc,trivial⟩];simp
 | true =>
   obtain⟨h2,h5,_⟩:=c0T hpo;rw[G0S c hw h2 h5,vS,gP ⟨rfl,fun _=>rfl,fun _=>rfl,fun _=>rfl,fun _=>rfl,fun _=>rfl,trivial⟩]
theorem G0V(c:a0y)(hw:wf y163 c)(h8:c.2.2.2.1.length<=8)(hk:∀i,i<c.2.2.2.1.length->1<=(a0d c i).1/\(a0d c i).1<=5):B0K c=some (fN (h0p (a0d c)) c.2.2.2.1.length (List.replicate 6 0)):=by
 have h:=(m0i hw).1;unfold B0K;rw[gP ⟨⟨by omega,rfl,by decide,by omega⟩,trivial⟩];have key:=lF (n:=c.2.2.2.1.length) h (fun i (v:List Int)=>((i:Int),v)) (h0p (a0d c)) (fun i v=>i<=c.2.2.2.1.length/\v=fN (h0p (a0d c)) i (List.replicate 6 0)) (J:=fun v=>some v) (F:=w0q c) (fun g i v hi hI=>by
  obtain⟨h1,h2⟩:=f0Q (a0d c) i (fun j hj=>hk j (by omega));obtain⟨k1,k2⟩:=hk i hi;have hlen:v.length=6:=by rw[hI.2]; exact h1
  have hcnt:=h2 (a0d c i).1.toNat (by omega);have hle:=h0I (a0d c) ((a0d c i).1.toNat:Int) i;rw[<- hI.2] at hcnt;have e3:((i:Int)).toNat=i:=rfl;refine(if_pos (by simpa using hi)).trans ?_;have hin:a0f (v.getD (a0d c i).1.toNat 0+1):=by rw[hcnt]; exact oo
  have hix:ix (a0d c i).1 v.length:=oo;have hlt:(a0d c i).1.toNat<v.length:=by omega
  rw[e3,gP ⟨oo,hix,hlt,hin,hix,hlt,trivial⟩,lE,gP ⟨oo,trivial⟩];rfl) (fun i v hi hI=>⟨by omega,by rw[hI.2]; rfl⟩) (fun g s _=>aE) (List.replicate 6 0) ⟨by omega,rfl⟩
 exact key
theorem H0a(c:a0y)(hw:wf y163 c):A0k c=some (d0u a0J c):=by
 have ha:=m0i hw;have h:=ha.1;show _=some (c0z a0J _ _ _ _ _ _ _ _ _);unfold A0k c0z;rw[G0X c hw,E0m c.1 hw.1,r97,r97]
 repeat rw[vS]
 rw[gP ⟨rfl,trivial⟩,lE,gP ⟨fun _=>rfl,fun _=>rfl,fun _=>rfl,trivial⟩];cases hpo:c0t c.2.2.1.length (a0l c) with
 | false =>
   have e9:(if false=true then(e0J c.2.2.1.length (a0l c),true) else((0:Int),false))=((0:Int),false):=rfl;rw[e9];refine(if_pos (by rfl)).trans ?_;simp
 | true =>
   obtain⟨h2,h5,_⟩:=c0T hpo;have e9:(if true=true then(e0J c.2.2.1.length (a0l c),true) else((0:Int),false))=(e0J c.2.2.1.length (a0l c),true):=rfl;rw[e9];by_cases hgo:nmB c.1=true/\c.2.2.2.1.length<=8/\inB c.2.2.2.2.2.1 0 100000=true/\inB c.2.2.2.2.2.2 0 100000=true
   ·obtain⟨g1,g2,g3,g4⟩:=hgo;have e0:decide (8 < (c.2.2.2.1.length:Int))=false:=decide_eq_false (by omega);rw[g1,e0,g3,g4];refine(if_neg (by simp)).trans ?_;have key:=b0f (n:=c.2.2.2.1.length) h (fun i=>!a0J c.2.2.1.length (a0l c) (a0d c i)||A0A (a0d c) i) (some false) (e:=n0x c (e0J c.2.2.1.length (a0l c),true) ()) (F:=w0C c (e0J c.2.2.1.length (a0l c),true)) (fun g i hi=>by
     have e3:((i:Int)).toNat=i:=rfl;have e1:=G0W c (a0d c i) hw (e0n hi ha);have inner:=b0f (n:=i) (by omega) (fun k=>(a0d c k).1==(a0d c i).1&&(a0d c k).2.1==(a0d c i).2.1&&(a0d c k).2.2.1==(a0d c i).2.2.1) (some false) (e:=g ((i:Int)+1)) (F:=w0B c (a0d c i) (i:Int) g) (fun g3 k hk=>d0N hk (by omega) ⟨oo,fun _=>oo,fun _=>oo,trivial⟩) (fun g3=>by
      refine aE.trans ?_;exact gP ⟨oo,trivial⟩)
     refine(if_pos (by simpa using hi)).trans ?_;rw[e3,gP ⟨oo,trivial⟩,lE,e1,vS,gP ⟨rfl,trivial⟩,inner];unfold A0A;cases a0J c.2.2.1.length (a0l c) (a0d c i) <;> cases(List.range i).any (fun k=>(a0d c k).1==(a0d c i).1&&(a0d c k).2.1==(a0d c i).2.1&&(a0d c k).2.2.1==(a0d c i).2.2.1) <;> rfl) (fun g=>aE)
    refine key.trans ?_;unfold n0f;rw[decide_eq_true g2];cases hany:(List.range c.2.2.2.1.length).any fun i=>!a0J c.2.2.1.length (a0l c) (a0d c i)||A0A (a0d c) i with
    | true=>simp
    | false =>
      rw[if_neg (by simp)];have hall:∀i,i<c.2.2.2.1.length->a0J c.2.2.1.length (a0l c) (a0d c i)=true:=fun i hi=>by
       have:=(b0B (n:=c.2.2.2.1.length)).1 (by rw[hany]; rfl) i hi;rw[Bool.or_eq_false_iff,Bool.not_eq_false'] at this;exact this.1
      have hkin:=G0V c hw g2 (fun i hi=>l0T (hall i hi));obtain⟨n6,ncnt⟩:=f0Q (a0d c) c.2.2.2.1.length (fun i hi=>l0T (hall i hi));have c1:=ncnt 1 (by omega);have c2:=ncnt 2 (by omega);have c3:=ncnt 3 (by omega);rw[n0x,hkin,vS,gP ⟨rfl,trivial⟩,lE];generalize fN (h0p (a0d c)) c.2.2.2.1.length (List.replicate 6 0)=v at *
      have q1:((v.getD 1 0)==(0:Int))=!b0s c.2.2.2.1.length (a0d c) 1:=by
       rw[c1,e0b];have:=(h0I (a0d c) 1 c.2.2.2.1.length).1;rw[Bool.eq_iff_iff]; simp; omega
      have q1':decide (0<v.getD 1 0)=b0s c.2.2.2.1.length (a0d c) 1:=by rw[c1,e0b]; rfl
      have q2:decide (0<v.getD 2 0)=b0s c.2.2.2.1.length (a0d c) 2:=by rw[c2,e0b]; rfl
      have q3:decide (0<v.getD 3 0)=b0s c.2.2.2.1.length (a0d c) 3:=by rw[c3,e0b]; rfl
      have q3':((v.getD 3 0)==(0:Int))=!b0s c.2.2.2.1.length (a0d c) 3:=by
       rw[c3,e0b];have:=(h0I (a0d c) 3 c.2.2.2.1.length).1;rw[Bool.eq_iff_iff]; simp; omega
      have i1:ix (1:Int) v.length:=oo;have i2:ix (2:Int) v.length:=oo;have i3:ix (3:Int) v.length:=oo;have n1:Int.toNat (1:Int)<v.length:=by rw[n6]; decide
      have n2:Int.toNat (2:Int)<v.length:=by rw[n6]; decide
      have n3:Int.toNat (3:Int)<v.length:=by rw[n6]; decide
      unfold p0O;by_cases k1:c.2.1=1
      ·rw[if_pos (beq_iff_eq.2 k1),if_pos k1];have ht:=hw.2.2.2.2.1.1;have key2:=b0f (n:=c.2.2.2.2.1.length) ht (fun i=>!inB (c.2.2.2.2.1.getD i 0) 0 1) (some false) (e:=k0v (e0J c.2.2.1.length (a0l c),true) c ()) (F:=w0A c (e0J c.2.2.1.length (a0l c),true)) (fun g i hi=>d0N hi ht ⟨oo,rfl,trivial⟩) (fun g=>aE);refine key2.trans ?_;rw[a0W c.2.2.2.2.1 0 (fun x=>!inB x 0 1),<- c0e];have e5:k0v (e0J c.2.2.1.length (a0l c),true) c ()=some (e0J c.2.2.1.length (a0l c)==0&&(c.2.2.2.2.1.length:Int)==1*2 ^ (c.2.2.1.length-1)):=by
        rw[k0v,c0P (by omega),gP ⟨fun _=>oo,fun _=>oo,fun _=>⟨by omega,x0R h5⟩,trivial⟩]
       rw[e5];cases c.2.2.2.2.1.any fun x=>!inB x 0 1 <;> simp
      ·rw[if_neg (by simpa using k1),if_neg k1];by_cases k2:c.2.1=2
       ·rw[if_pos (beq_iff_eq.2 k2),if_pos k2,gP ⟨fun _=>i1,fun _=>n1,fun _=>i2,fun _=>n2,fun _=>i3,fun _=>n3,trivial⟩];have w1:Int.toNat (1:Int)=1:=rfl;have w2:Int.toNat (2:Int)=2:=rfl;have w3:Int.toNat (3:Int)=3:=rfl;rw[w1,w2,w3,q1,q2,q3];cases e0J c.2.2.1.length (a0l c)==1 <;> cases(c.2.2.2.2.1.length:Int)==0 <;> cases b0s c.2.2.2.1.length (a0d c) 1 <;> cases b0s c.2.2.2.1.length (a0d c) 2 <;> cases b0s c.2.2.2.1.length (a0d c) 3 <;> rfl
       ·rw[if_neg (by simpa using k2),if_neg k2];by_cases k3:c.2.1=3
        ·rw[if_pos (beq_iff_eq.2 k3),if_pos k3,gP ⟨fun _=>i1,fun _=>n1,fun _=>i2,fun _=>n2,fun _=>i3,fun _=>n3,trivial⟩];have w1:Int.toNat (1:Int)=1:=rfl;have w2:Int.toNat (2:Int)=2:=rfl;have w3:Int.toNat (3:Int)=3:=rfl;rw[w1,w2,w3,q1',q2,q3'];cases e0J c.2.2.1.length (a0l c)==1 <;> cases(c.2.2.2.2.1.length:Int)==0 <;> cases b0s c.2.2.2.1.length (a0d c) 1 <;> cases b0s c.2.2.2.1.length (a0d c) 2 <;> cases b0s c.2.2.2.1.length (a0d c) 3 <;> rfl
        ·rw[if_neg (by simpa using k3),if_neg k3];rfl
   ·have e0:(!nmB c.1||decide (8 < (c.2.2.2.1.length:Int))||!inB c.2.2.2.2.2.1 0 100000||!inB c.2.2.2.2.2.2 0 100000)=true:=by
     rw[<- Bool.not_eq_false];intro hc;simp only[Bool.or_eq_false_iff,Bool.not_eq_false',decide_eq_false_iff_not] at hc;exact hgo ⟨hc.1.1.1,by omega,hc.1.2,hc.2⟩
    refine(if_pos (by simpa using e0)).trans ?_;have e1:¬(nmB c.1=true/\decide (c.2.2.2.1.length<=8)=true/\inB c.2.2.2.2.2.1 0 100000=true/\inB c.2.2.2.2.2.2 0 100000=true):=fun hc=>hgo ⟨hc.1,by simpa using hc.2.1,hc.2.2⟩;refine congrArg some ?_;unfold n0f
    symm
    rw[<- Bool.not_eq_true];intro hc;simp only[ba] at hc;exact e1 ⟨hc.1.1.1.1.1,hc.1.1.1.2.1,hc.1.1.2,hc.1.2⟩
abbrev c0A(l:List a0y)(i:Nat):a0y:=l.getD i (a0a y163)
abbrev h0o(l:List a0y):Bool:=t0t l.length (fun i=>d0u a0J (c0A l i)) (fun i=>(c0A l i).1)
theorem s0T{c:a0y}(h:d0u a0J c=true):nmB c.1=true:=by
 have h:c0z a0J _ _ _ _ _ _ _ _ _=true:=h;unfold c0z at h;simp only[ba] at h;exact h.1.1.1.1.1
theorem H0i(l:List a0y)(hw:wf (.sl y163) l)(hm:cnt (.sl y163) l<=1048576):A0m l=some (h0o l):=by
 have h:=hw.1;have hl:=c0w hm;have key:=f0f (n:=l.length) h (fun i (s:List ByteArray)=>(s,(i:Int))) (m0P fun i=>(c0A l i).1) (fun i=>!d0u a0J (c0A l i)) (some false) (fun i s=>s.length=i) (J:=k0z l) (F:=w0M l) (fun g i s hi hI=>by
  have e3:((i:Int)).toNat=i:=rfl;have hc:cnt y163 (c0A l i)<=1048576:=C0I hi hm;have hp:(c0A l i).2.2.1.length<=1048576:=c0w (cF (cS (cS hc)));have e1:=G0Y (c0A l i) (e0n hi hw) hp;have ha:=o0W (b:=16) hi hl (by decide);refine(if_pos (by simpa using hi)).trans ?_;rw[e3,gP ⟨oo,trivial⟩,lE,e1,vS,gP ⟨rfl,trivial⟩,gP ⟨⟨by show s.length+1<=_; omega,by show(s.length+1)*16<=_; omega⟩,trivial⟩,gP ⟨oo,trivial⟩];rfl) (fun i s hi hI _=>by unfold m0P; rw[List.length_append,hI]; rfl) (fun g s _=>aE) [] rfl
 refine key.trans ?_;rw[e0a l (a0a y163) (fun c:a0y=>c.1)];have hn:wf (.sl .str) (l.map fun c:a0y=>c.1):=i0n h fun x hx=>(hw.2 x hx).1;have e7:∀v:List ByteArray,wf (.sl .str) v->k0z l v=some (decide (l.length<=8)&&a0B v.length fun i=>v.getD i (a0a .str)):=fun v hv=>by
  have e8:decide ((l.length:Int)<=8)=decide (l.length<=8):=by rw[decide_eq_decide]; omega
  rw[k0z,C0d _ hv,vS,gP ⟨fun _=>rfl,trivial⟩,e8]
 rw[e7 _ hn,c0U l (fun c:a0y=>c.1) (a0a y163)];show _=some (t0t _ _ _);rw[<- C0r (fun i _ hc=>s0T hc)];split <;> rfl
theorem H0l(l:List a0y)(hw:wf (.sl y163) l):A0q l=some (h0o l):=by
 have h:=hw.1;have key:=b0f (n:=l.length) h (fun i=>!d0u a0J (c0A l i)||h0X (fun i=>(c0A l i).1) i) (some false) (e:=n0F l ()) (F:=x0l l) (fun g i hi=>by
  have e3:((i:Int)).toNat=i:=rfl;have e1:=H0a (c0A l i) (e0n hi hw);have inner:=b0f (n:=i) (by omega) (fun k=>decide ((c0A l k).1=(c0A l i).1)) (some false) (e:=g ((i:Int)+1)) (F:=x0k l (i:Int) g) (fun g3 k hk=>d0N hk (by omega) ⟨oo,oo,trivial⟩) (fun g3=>by
   refine aE.trans ?_;exact gP ⟨oo,trivial⟩)
  refine(if_pos (by simpa using hi)).trans ?_;rw[e3,e1,vS,gP ⟨oo,rfl,trivial⟩,inner];unfold h0X;cases d0u a0J (c0A l i) <;> cases(List.range i).any (fun k=>decide ((c0A l k).1=(c0A l i).1)) <;> rfl) (fun g=>aE)
 refine key.trans ?_;show _=some (t0t _ _ _);unfold t0t n0F;have e8:decide ((l.length:Int)<=8)=decide (l.length<=8):=by rw[decide_eq_decide]; omega
 rw[e8];cases(List.range l.length).any (fun i=>!d0u a0J (c0A l i)||h0X (fun i=>(c0A l i).1) i) <;> rfl
abbrev a0c(d:Y31)(i:Nat):a0H:=d.1.getD i (a0a y165)
abbrev a0I(d:Y31)(i:Nat):b0g:=d.2.2.getD i (a0a y175)
abbrev b0t(l:List a0y)(x:Int):Nat:=(l.getD x.toNat (a0a y163)).2.2.1.length
abbrev b0D(l:List a0y)(d:Y31):Bool:=b0E (h0o l) l.length (b0t l) d.1.length d.2.2.length d.2.1.length (a0c d) (a0I d) (fun i=>d.2.1.getD i (a0a .str))
theorem F0r(d:Y31)(hw:wf y31 d)(x:Int):t0V d x=some (inB x 0 ((d.2.1.length:Int)-1)):=by
 have h:=hw.2.1.1;have e:y0K d.2.1=some (d.2.1.length:Int):=rfl;unfold t0V;rw[e]
 repeat rw[vS]
 rw[p0A,vS,gP ⟨rfl,oo,rfl,trivial⟩]
theorem H0g(d:Y31)(l:List a0y)(x:a0H)(hd:wf y31 d)(hl:wf (.sl y163) l)(hx:wf y165 x):A0l d l x=some (c0X l.length (b0t l) d.2.1.length x):=by
 have h:=hl.1;have hn:=hx.2.2.1;have e:t0S l=some (l.length:Int):=rfl;have e1:∀y,A0h y d=some (!inB y 0 ((d.2.1.length:Int)-1)):=fun y=>by
  unfold A0h;rw[F0r d hd,gP ⟨rfl,trivial⟩,vS]
 have h1:g0x x.2.2 d=_:=b0S hn (fun i=>!inB (x.2.2.getD i 0) 0 ((d.2.1.length:Int)-1)) (fun g i hi=>h0y hi hn (e1 _)) (fun g=>aE);have h2:e0R x.2.2 d=_:=d0k h1;rw[a0W x.2.2 0 (fun y=>!inB y 0 ((d.2.1.length:Int)-1))] at h2;unfold A0l;rw[e,h2]
 repeat rw[vS]
 rw[p0A,vS,gP ⟨rfl,oo,rfl,fun hc=>by
  have:=a0s.1 hc.1;exact oo,fun _=>rfl,trivial⟩,c0e]
 rfl
theorem H0h(d:Y31)(hw:wf y31 d)(hm:cnt y31 d<=1048576):B0Q d=some (decide (d.1.length<=14)&&decide (d.2.1.length<=30)&&decide (d.2.2.length<=8)&&a0B d.1.length (fun i=>(a0c d i).1)&&a0B d.2.1.length (fun i=>d.2.1.getD i (a0a .str))&&a0B d.2.2.length (fun i=>(a0I d i).1)):=by
 have hi0:=hw.1.1;have hp0:=hw.2.2.1;have hil:d.1.length<=1048576:=c0w (cF hm);have hpl:d.2.2.length<=1048576:=c0w (cS (cS hm));have key:=lF (n:=d.1.length) hi0 (fun i (s:List ByteArray)=>(s,(i:Int))) (m0P fun i=>(a0c d i).1) (fun i s=>s.length=i) (J:=k0y d) (F:=w0L d) (fun g i s hi hI=>by
  have e3:((i:Int)).toNat=i:=rfl;have ha:=o0W (b:=16) hi hil (by decide);refine(if_pos (by simpa using hi)).trans ?_;rw[e3,gP ⟨oo,trivial⟩,lE,gP ⟨⟨by show s.length+1<=_; omega,by show(s.length+1)*16<=_; omega⟩,trivial⟩,gP ⟨oo,trivial⟩];rfl) (fun i s hi hI=>by unfold m0P; rw[List.length_append,hI]; rfl) (fun g s _=>aE) [] rfl
 refine key.trans ?_;rw[e0a d.1 (a0a y165) (fun c:a0H=>c.1)];have hn1:wf (.sl .str) (d.1.map fun c:a0H=>c.1):=i0n hi0 fun x hx=>(hw.1.2 x hx).1;have hn2:wf (.sl .str) (d.2.2.map fun c:b0g=>c.1):=i0n hp0 fun x hx=>(hw.2.2.2 x hx).1;have e7:∀v:List ByteArray,wf (.sl .str) v->v.length=d.1.length->k0y d v=some (decide (d.1.length<=14)&&decide (d.2.1.length<=30)&&decide (d.2.2.length<=8)&&(a0B v.length fun i=>v.getD i (a0a .str))&&a0B d.2.1.length (fun i=>d.2.1.getD i (a0a .str))&&a0B d.2.2.length (fun i=>(a0I d i).1)):=fun v hv hvl=>by
  rw[k0y];have key2:=lF (n:=d.2.2.length) hp0 (fun i (s:List ByteArray)=>(s,(i:Int))) (m0P fun i=>(a0I d i).1) (fun i s=>s.length=i) (J:=k0x v d) (F:=w0K d v) (fun g i s hi hI=>by
   have e3:((i:Int)).toNat=i:=rfl;have ha:=o0W (b:=16) hi hpl (by decide);refine(if_pos (by simpa using hi)).trans ?_;rw[e3,gP ⟨oo,trivial⟩,lE,gP ⟨⟨by show s.length+1<=_; omega,by show(s.length+1)*16<=_; omega⟩,trivial⟩,gP ⟨oo,trivial⟩];rfl) (fun i s hi hI=>by unfold m0P; rw[List.length_append,hI]; rfl) (fun g s _=>aE) [] rfl
  refine key2.trans ?_;rw[e0a d.2.2 (a0a y175) (fun c:b0g=>c.1)];have e9:∀z:List ByteArray,wf (.sl .str) z->z.length=d.2.2.length->k0x v d z=some (decide (d.1.length<=14)&&decide (d.2.1.length<=30)&&decide (d.2.2.length<=8)&&(a0B v.length fun i=>v.getD i (a0a .str))&&a0B d.2.1.length (fun i=>d.2.1.getD i (a0a .str))&&a0B z.length (fun i=>z.getD i (a0a .str))):=fun z hz hzl=>by
   have a1:decide ((v.length:Int)<=14)=decide (d.1.length<=14):=by rw[decide_eq_decide]; omega
   have a2:decide ((d.2.1.length:Int)<=30)=decide (d.2.1.length<=30):=by rw[decide_eq_decide]; omega
   have a3:decide ((z.length:Int)<=8)=decide (d.2.2.length<=8):=by rw[decide_eq_decide]; omega
   rw[k0x,C0d _ hv,C0d _ hz,C0d _ hw.2.1,vS,vS,vS,gP ⟨fun _=>rfl,fun _=>rfl,fun _=>rfl,trivial⟩,a1,a2,a3]
  rw[e9 _ hn2 (List.length_map _),c0U d.2.2 (fun c:b0g=>c.1) (a0a y175)]
 rw[e7 _ hn1 (List.length_map _),c0U d.1 (fun c:a0H=>c.1) (a0a y165)]
theorem g0J{l:List a0y}(h:h0o l=true){x:Int}(hx:inB x 0 ((l.length:Int)-1)=true):2<=b0t l x/\b0t l x<=5:=by
 have h:t0t _ _ _=true:=h;unfold t0t at h;rw[ba] at h;rw[a0s] at hx;have:=b0B.1 h.1 x.toNat (by omega);rw[Bool.or_eq_false_iff,Bool.not_eq_false'] at this;have hc:c0z a0J _ _ _ _ _ _ _ _ _=true:=this.1;unfold c0z at hc;simp only[ba] at hc;have:=c0T hc.1.1.1.1.2;exact⟨this.1,this.2.1⟩
theorem h0u{nc nn:Nat}{pins:Int->Nat}{x:b0j}(h:c0X nc pins nn x=true)(hp:∀y,inB y 0 ((nc:Int)-1)=true->2<=pins y):1<=x.2.2.length/\inB (x.2.2.getD (x.2.2.length-1) 0) 0 ((nn:Int)-1)=true:=by
 unfold c0X at h;simp only[ba,beq_iff_eq] at h;have h2:=hp _ h.1.1;have h3:1<=x.2.2.length:=by omega
 refine⟨h3,?_⟩;rw[gq,List.getElem?_eq_getElem (by omega)];exact List.all_eq_true.1 h.2 _ (List.getElem_mem _)
theorem H0k(l:List a0y)(d:Y31)(hl:wf (.sl y163) l)(hd:wf y31 d):B0S l d=some (!((List.range d.1.length).any fun i=>!c0X l.length (b0t l) d.2.1.length (a0c d i))&&!((List.range d.2.2.length).any fun i=>!d0h d.2.1.length (a0I d i))):=by
 have h:=hl.1;have hi0:=hd.1.1;have hp0:=hd.2.2.1;have hn0:=hd.2.1.1;have kj:n0E d ()=some (!((List.range d.2.2.length).any fun i=>!d0h d.2.1.length (a0I d i))):=by
  have key:=b0f (n:=d.2.2.length) hp0 (fun i=>!d0h d.2.1.length (a0I d i)) (some false) (e:=some true) (F:=x0f d) (fun g i hi=>by
   have e3:((i:Int)).toNat=i:=rfl;refine(if_pos (by simpa using hi)).trans ?_;rw[e3,r97,r97,vS,vS,gP ⟨oo,rfl,fun _=>oo,fun _=>oo,fun _=>rfl,trivial⟩,gP ⟨oo,trivial⟩];unfold d0h;rw[Bool.not_and]) (fun g=>aE)
  refine key.trans ?_;cases(List.range d.2.2.length).any fun i=>!d0h d.2.1.length (a0I d i) <;> rfl
 have key:=b0f (n:=d.1.length) hi0 (fun i=>!c0X l.length (b0t l) d.2.1.length (a0c d i)) (some false) (e:=n0E d ()) (F:=x0h d l) (fun g i hi=>by
  have e3:((i:Int)).toNat=i:=rfl;have hx:=e0n (d:=a0a y165) hi hd.1;have hn:=hx.2.2.1;refine(if_pos (by simpa using hi)).trans ?_;rw[e3,gP ⟨oo,trivial⟩,lE,r97,vS,gP ⟨oo,rfl,fun hc=>by
   have:=hc.1;rw[Bool.not_eq_false'] at this;have:=a0s.1 this;exact oo,trivial⟩]
  have inner:=b0f (n:=(a0c d i).2.2.length) hn (fun k=>!inB ((a0c d i).2.2.getD k 0) 0 ((d.2.1.length:Int)-1)) (some false) (e:=g ((i:Int)+1)) (F:=x0g (a0c d i) d (i:Int) g) (fun g3 k hk=>by
   refine(d0N hk hn ⟨oo,oo,rfl,trivial⟩).trans ?_;rfl) (fun g3=>by
   refine aE.trans ?_;exact gP ⟨oo,trivial⟩)
  rw[a0W (a0c d i).2.2 0 (fun y=>!inB y 0 ((d.2.1.length:Int)-1))] at inner;rw[inner];unfold c0X;rw[<- c0e];have n1:((((a0c d i).2.2.length:Nat):Int) != ((b0t l (a0c d i).2.1:Nat):Int))=!((((a0c d i).2.2.length:Nat):Int)==((b0t l (a0c d i).2.1:Nat):Int)):=rfl;show(if(!inB (a0c d i).2.1 0 ((l.length:Int)-1)||(((a0c d i).2.2.length:Nat):Int) != ((b0t l (a0c d i).2.1:Nat):Int))=true then some false else if((a0c d i).2.2.any fun y=>!inB y 0 ((d.2.1.length:Int)-1))=true then some false else g ((i:Int)+1))=_;rw[n1];cases inB (a0c d i).2.1 0 ((l.length:Int)-1) <;> cases((((a0c d i).2.2.length:Nat):Int)==((b0t l (a0c d i).2.1:Nat):Int)) <;> cases((a0c d i).2.2.any fun y=>!inB y 0 ((d.2.1.length:Int)-1)) <;> rfl) (fun g=>aE)
 refine key.trans ?_;rw[kj];cases(List.range d.1.length).any fun i=>!c0X l.length (b0t l) d.2.1.length (a0c d i) <;> rfl
theorem o0e(v:List Int):(!v.any fun x=>x != 1)=v.all (·==1):=c0e v (fun x=>x==1)
theorem r0E{n b:Nat}(h:n<=1048576)(hb:b<=4096):(0<=(n:Int)/\(n:Int)=(n:Int)/\(n:Int).toNat*b<=281474976710656/\(n:Int)<=9223372036854775807)/\True:=by
 have hm:n*b<=1048576*4096:=Nat.mul_le_mul h hb;exact⟨⟨by omega,rfl,by rw[Int.toNat_natCast]; omega,by omega⟩,trivial⟩
theorem l0y{v:List Int}{n b:Nat}{x:Int}(h:f0h v n b)(hb:b<=2097152)(hx:inB x 0 ((n:Int)-1)=true):ix x v.length/\x.toNat<v.length/\a0f (v.getD x.toNat 0+1)/\ix x v.length/\x.toNat<v.length/\True:=by
 obtain⟨h1,h2⟩:=u0X h hx;have:=h.2 x.toNat;exact⟨h1,h2,oo,h1,h2,trivial⟩
theorem j0x{n:Nat}(h1:1<=n)(h:n<=9223372036854775807):a0f ((n:Int)-1)/\ix ((n:Int)-1) n:=⟨oo,oo⟩
theorem H0p(l:List a0y)(d:Y31)(hl:wf (.sl y163) l)(hd:wf y31 d)(ml:cnt (.sl y163) l<=1048576)(md:cnt y31 d<=1048576):A0s l d=some (b0D l d):=by
 have hi0:=hd.1.1;have hp0:=hd.2.2.1;have mi:d.1.length<=1048576:=c0w (cF md);have mn:d.2.1.length<=1048576:=c0w (cF (cS md));have mp:d.2.2.length<=1048576:=c0w (cS (cS md));show _=some (b0E _ _ _ _ _ _ _ _ _);unfold A0s b0E;rw[H0i l hl ml,H0h d hd md,vS,vS,gP ⟨rfl,fun _=>rfl,trivial⟩];cases hlo:h0o l with
 | false=>exact if_pos rfl
 | true =>
   rw[Bool.true_and];cases hno:(decide (d.1.length<=14)&&decide (d.2.1.length<=30)&&decide (d.2.2.length<=8)&&a0B d.1.length (fun i=>(a0c d i).1)&&a0B d.2.1.length (fun i=>d.2.1.getD i (a0a .str))&&a0B d.2.2.length (fun i=>(a0I d i).1)) with
   | false=>exact if_pos rfl
   | true =>
     refine(if_neg (by simp)).trans ?_;rw[gP (r0E mn (by decide)),Int.toNat_natCast];have hpin:∀y,inB y 0 ((l.length:Int)-1)=true->2<=b0t l y:=fun y hy=>(g0J hlo hy).1;have key:=f0f (n:=d.1.length) hi0 (fun i (v:List Int)=>((i:Int),v)) (d0I (a0c d)) (fun i=>!c0X l.length (b0t l) d.2.1.length (a0c d i)) (some false) (fun i v=>i<=d.1.length/\f0h v d.2.1.length i) (J:=n0I d) (F:=x0u d l) (fun g i v hi hI=>by
      have e3:((i:Int)).toNat=i:=rfl;have hx:=e0n (d:=a0a y165) hi hd.1;refine(if_pos (by simpa using hi)).trans ?_;rw[e3,gP ⟨oo,trivial⟩,lE,H0g d l _ hd hl hx,vS,gP ⟨rfl,trivial⟩];cases hin:c0X l.length (b0t l) d.2.1.length (a0c d i) with
      | false=>rfl
      | true =>
        obtain⟨g1,g2⟩:=h0u hin hpin;have hlen:(a0c d i).2.2.length<=9223372036854775807:=hx.2.2.1;refine(if_neg (by simp)).trans ?_;rw[c0P g1,gP ⟨(j0x g1 hlen).1,(j0x g1 hlen).2,l0y hI.2 (by omega) g2⟩,lE,gP ⟨oo,trivial⟩];rfl) (fun i v hi hI _=>⟨by omega,c0V hI.2 _⟩) (fun g v _=>aE) (List.replicate d.2.1.length 0) ⟨by omega,f0g _ _⟩
     refine key.trans ?_;cases hia:(List.range d.1.length).any fun i=>!c0X l.length (b0t l) d.2.1.length (a0c d i) with
     | true=>simp
     | false =>
       refine(if_neg (by simp)).trans ?_;have hlow:=h0w (a0c d) d.2.1.length d.1.length;unfold g0n;generalize fN (d0I (a0c d)) d.1.length (List.replicate d.2.1.length 0)=v0 at *
       rw[n0I];have key2:=f0f (n:=d.2.2.length) hp0 (fun i (v:List Int)=>((i:Int),v)) (c0y (a0I d)) (fun i=>!d0h d.2.1.length (a0I d i)) (some false) (fun i v=>i<=d.2.2.length/\f0h v d.2.1.length (d.1.length+i)) (J:=k0D) (F:=x0t d) (fun g i v hi hI=>by
        have e3:((i:Int)).toNat=i:=rfl;have j4:∀v',n0H (i:Int) g v'=g (((i+1:Nat):Int),v'):=fun v'=>gP ⟨oo,trivial⟩;refine(if_pos (by simpa using hi)).trans ?_;rw[e3,gP ⟨oo,trivial⟩,lE,F0r d hd,vS,gP ⟨fun _=>rfl,trivial⟩,j4,j4];have e5:((a0I d i).2.1 != 1&&(a0I d i).2.1 != 2||!inB (a0I d i).2.2 0 ((d.2.1.length:Int)-1))=!d0h d.2.1.length (a0I d i):=by
         unfold d0h;rw[Bool.not_and];congr 1;rw[Bool.eq_iff_iff];simp only[ba,bne_iff_ne,Bool.not_eq_true',<- Bool.not_eq_true,a0s];omega
        show(if((a0I d i).2.1 != 1&&(a0I d i).2.1 != 2||!inB (a0I d i).2.2 0 ((d.2.1.length:Int)-1))=true then some false else _)=_;rw[e5];cases hpo:d0h d.2.1.length (a0I d i) with
        | false=>rfl
        | true =>
          have hnet:inB (a0I d i).2.2 0 ((d.2.1.length:Int)-1)=true:=by
           unfold d0h at hpo;rw[ba] at hpo;exact hpo.2
          refine(if_neg (by simp)).trans ?_;show _=g (_,c0y (a0I d) i v);unfold c0y;by_cases k1:(a0I d i).2.1=1
          ·rw[if_pos (beq_iff_eq.2 k1),if_pos k1];exact gP (l0y hI.2 (by omega) hnet)
          ·rw[if_neg (by simpa using k1),if_neg k1]) (fun i v hi hI _=>⟨by omega,by
          unfold c0y;split
          ·exact c0V hI.2 _
          ·exact j0K hI.2 (by omega)⟩) (fun g v _=>aE) v0 ⟨by omega,hlow⟩
       refine key2.trans ?_;cases hpa:(List.range d.2.2.length).any fun i=>!d0h d.2.1.length (a0I d i) with
       | true=>simp
       | false =>
         refine(if_neg (by simp)).trans ?_;have hv:∀v:List Int,v.length<=9223372036854775807->k0D v=some (v.all (·==1)):=fun v hv=>by
          have h1:g0A v=_:=b0S hv (fun i=>v.getD i 0 != 1) (fun g i hi=>h0y hi hv rfl) (fun g=>aE);have h2:e0T v=_:=d0k h1;rw[a0W v 0 (fun x=>x != 1)] at h2;rw[k0D,h2,vS,gP ⟨rfl,trivial⟩,o0e]
         have hlen:(fN (c0y (a0I d)) d.2.2.length v0).length<=9223372036854775807:=by
          have:∀n,(fN (c0y (a0I d)) n v0).length=v0.length:=by
           intro n
           induction n with
           | zero=>rfl
           | succ n ih =>
             rw[fN];unfold c0y;split
             ·unfold h0x; rw[List.length_set]; exact ih
             ·exact ih
          rw[this,hlow.1]; omega
         rw[hv _ hlen];rfl
end Go.Proofs.YtphnknndgfgepaaGreatDoor
end
