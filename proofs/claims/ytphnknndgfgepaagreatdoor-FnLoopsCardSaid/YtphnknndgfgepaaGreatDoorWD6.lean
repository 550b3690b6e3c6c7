/- Pins, arcs, cells: what the program's functions and the reference's say of them. -/
import Derived.Test.YtphnknndgfgepaaGreatDoorWC6
import Derived.Test.YtphnknndgfgepaaGreatDoorWB6
section
namespace Go.Proofs.YtphnknndgfgepaaGreatDoor
open Go Go.Proofs Go.Proofs.Sv Go.Proofs.Xv Go.Proofs.Xl Go.Proofs.Xd
theorem Dy{c:m4}(hw:wf y163 c):wf (.sl y217) c.2.2.1:=hw.2.2.1
theorem Fy{c:m4}(hw:wf y163 c):wf (.sl y143) c.2.2.2.1:=hw.2.2.2.1
theorem Dj{α:Type}(l:List α)(f:α->ByteArray)(d:α)(e:ByteArray):C2 (l.map f).length (fun i=>(l.map f).getD i e)=C2 l.length fun i=>f (l.getD i d):=by
 rw[List.length_map];exact l0a fun i hi=>s0l f l i d e hi
theorem Fj{α:Type}{l:List α}{f:α->ByteArray}(h:l.length<=9223372036854775807)(hf:∀x∈l,(f x).size<=9223372036854775807):wf (.sl .str) (l.map f):=by
 refine⟨by rw[List.length_map]; exact h,fun x hx=>?_⟩;obtain⟨y,hy,rfl⟩:=List.mem_map.1 hx;exact hf y hy
def U7(f:Nat->ByteArray)(i:Nat)(s:List ByteArray):List ByteArray:=s++[f i]
theorem Zm(f:Nat->ByteArray):∀n,fN (U7 f) n []=(List.range n).map f
 | 0=>rfl
 | n+1=>by
   rw[fN,Zm f n,List.range_succ,List.map_append]; rfl
theorem Gj{α:Type}(l:List α)(d:α)(f:α->ByteArray):fN (U7 fun i=>f (l.getD i d)) l.length []=l.map f:=by
 rw[Zm,r0x]
theorem Gv{n i b:Nat}(h:i<n)(hn:n<=1048576)(hb:b<=4096):i+1<=9223372036854775807/\(i+1)*b<=140737488355328:=by
 have:(i+1)*b<=1048576*4096:=Nat.mul_le_mul (by omega) hb;exact oo
theorem G0X(l:List I2)(hw:wf (.sl y217) l)(hm:l.length<=1048576):t0I l=some (Y1 l.length fun i=>l.getD i (d6 y217)):=by
 have h:=hw.1;have key:=f0j (n:=l.length) h (fun i (s:List ByteArray)=>(s,(i:Int))) (U7 fun i=>(l.getD i (d6 y217)).1) (fun i=>!Fq l.length (l.getD i (d6 y217)) i) (some false) (fun i s=>s.length=i) (J:=k0h l) (F:=w0e l) (fun g i s hi hI=>by
  refine(if_pos (by simpa using hi)).trans ?_;have e3:((i:Int)).toNat=i:=rfl;have hs:(s++[(l.getD i (d6 y217)).1]).length<=9223372036854775807:=by rw[List.length_append]; show s.length+1<=_; omega
  have ha:=Gv (b:=16) hi hm (by decide);have j2:∀s',n0g (i:Int) g s'=g (s',((i+1:Nat):Int)):=fun s'=>gP ⟨oo,trivial⟩;rw[e3,gP ⟨oo,trivial⟩,lE,gP ⟨⟨by show s.length+1<=_; omega,by show(s.length+1)*16<=_; omega⟩,trivial⟩,gP ⟨oo,trivial⟩,j2,X3,gP ⟨fun _=>rfl,trivial⟩,vS];unfold Fq U7;dsimp only;by_cases hl:i+1=l.length
  ·have e1:((i:Int)==(l.length:Int)-1)=true:=by rw[beq_iff_eq]; omega
   rw[if_pos e1,if_pos hl];generalize l.getD i (d6 y217)=q;have n1:(q.2.1 != 2)=!(q.2.1==2):=rfl;have n2:(q.2.2.1 != 0)=!(q.2.2.1==0):=rfl;rw[n1,n2];cases c2:q.2.2.1==0 with
   | true =>
     have c3:inB q.2.2.1 0 500=true:=by rw[beq_iff_eq.1 c2]; rfl
     rw[c3];cases q.2.1==2 <;> cases q.2.2.2 <;> rfl
   | false=>cases inB q.2.2.1 0 500 <;> cases q.2.1==2 <;> cases q.2.2.2 <;> rfl
  ·have e1:¬((i:Int)==(l.length:Int)-1)=true:=by rw[beq_iff_eq]; omega
   rw[if_neg e1,if_neg hl];generalize l.getD i (d6 y217)=q;have e4:(q.2.1 != 1||!inB q.2.2.1 0 500)=!(inB q.2.2.1 0 500&&q.2.1==1):=by
    rw[Bool.not_and,Bool.or_comm]; rfl
   rw[e4]) (fun i s hi hI _=>by unfold U7; rw[List.length_append,hI]; rfl) (fun g s _=>aE) [] rfl
 refine key.trans ?_;rw[Gj];have hn:wf (.sl .str) (l.map fun q:I2=>q.1):=Fj h fun x hx=>(hw.2 x hx).1;have e5:q0A l=some (l.length:Int):=rfl;have e7:∀v:List ByteArray,wf (.sl .str) v->k0h l v=some (inB (l.length:Int) 2 5&&C2 v.length fun i=>v.getD i (d6 .str)):=fun v hv=>by
  rw[k0h];rw[e5,Mw _ hv]
  repeat rw[vS]
  rw[X3,vS,gP ⟨rfl,rfl,fun _=>rfl,trivial⟩]
 rw[e7 _ hn,Dj l (fun q:I2=>q.1) (d6 y217)];unfold Y1;have e6:inB (l.length:Int) 2 5=(decide (2<=l.length)&&decide (l.length<=5)):=by
  rw[Bool.eq_iff_iff,D1]; simp; omega
 rw[e6];cases(List.range l.length).any fun i=>!Fq l.length (l.getD i (d6 y217)) i
 ·simp
 ·simp
theorem H0a(c:m4)(hw:wf y163 c):B0D c=some (if Y1 c.2.2.1.length (q9 c)=true then(H8 c.2.2.1.length (q9 c),true) else(0,false)):=by
 have hp:=Dy hw;have h:=hp.1;unfold B0D;by_cases hr:2<=c.2.2.1.length/\c.2.2.1.length<=5
 ·have e0:(decide ((c.2.2.1.length:Int)<2)||decide (5 < (c.2.2.1.length:Int)))=false:=by
   rw[<- Bool.not_eq_true]; simp; omega
  rw[e0,if_neg (by simp)];have key:=f0j (n:=c.2.2.1.length) h (fun i (s:Int)=>(s,(i:Int))) (fun i s=>if(q9 c i).2.2.2=true then s+1 else s) (fun i=>(!nmB (q9 c i).1||M9 (fun i=>(q9 c i).1) i)||!Fq c.2.2.1.length (q9 c i) i) (some ((0:Int),false)) (fun i s=>0<=s/\s<=i) (J:=q0D) (F:=w0j c) (fun g i s hi hI=>by
   refine(if_pos (by simpa using hi)).trans ?_;have e3:((i:Int)).toNat=i:=rfl;have hs:(q9 c i).1.size<=9223372036854775807:=(U6 (d:=d6 y217) hi hp).1;rw[e3,gP ⟨oo,trivial⟩,lE];have inner:=I6 (n:=i) (by omega) (fun k=>decide ((q9 c k).1=(q9 c i).1)) (some ((0:Int),false)) (e:=n0h (i:Int) s (q9 c i) c g ()) (F:=w0i c (q9 c i) (i:Int) s g) (fun g3 k hk=>d0U hk (by omega) ⟨oo,trivial⟩) (fun g3=>aE);refine inner.trans ?_;have j3:n0h (i:Int) s (q9 c i) c g ()=if(!nmB (q9 c i).1||!Fq c.2.2.1.length (q9 c i) i)=true then some ((0:Int),false) else g (if(q9 c i).2.2.2=true then s+1 else s,((i+1:Nat):Int)):=by
    have j2:∀s',n0i (i:Int) g s'=g (s',((i+1:Nat):Int)):=fun s'=>gP ⟨oo,trivial⟩;show gd _ (if(!vl (U3 (q9 c i).1)||!vl (u97 (q9 c i).2.2.1 0 500))=true then _ else gd _ (if _=true then _ else if _=true then gd _ _ else _))=_;rw[Xk _ hs,r97,vS,vS,gP ⟨rfl,fun _=>rfl,trivial⟩,gP ⟨oo,fun _=>oo,trivial⟩,gP ⟨oo,trivial⟩,j2,j2];generalize q9 c i=q;have hx:((i:Int)==(c.2.2.1.length:Int)-1)=decide (i+1=c.2.2.1.length):=by
     rw[Bool.eq_iff_iff,beq_iff_eq,dq]; omega
    have hy:decide ((i:Int) < (c.2.2.1.length:Int)-1)=!decide (i+1=c.2.2.1.length):=by
     rw[Bool.eq_iff_iff]; simp; omega
    rw[hx,hy];have hz:Fq c.2.2.1.length q i=(inB q.2.2.1 0 500&&(if decide (i+1=c.2.2.1.length)=true then q.2.1==2&&q.2.2.1==0&&!q.2.2.2 else q.2.1==1)):=by
     unfold Fq;by_cases hq:i+1=c.2.2.1.length
     ·rw[if_pos hq,decide_eq_true hq,if_pos rfl]
     ·rw[if_neg hq,decide_eq_false hq,if_neg (by simp)]
    rw[hz];have n1:(q.2.1 != 2)=!(q.2.1==2):=rfl;have n2:(q.2.2.1 != 0)=!(q.2.2.1==0):=rfl;have n3:(q.2.1 != 1)=!(q.2.1==1):=rfl;rw[n1,n2,n3];cases nmB q.1 <;> cases inB q.2.2.1 0 500 <;> cases decide (i+1=c.2.2.1.length) <;> cases q.2.1==2 <;> cases q.2.2.1==0 <;> cases q.2.1==1 <;> cases q.2.2.2 <;> rfl
   rw[j3];have hd:M9 (fun i=>(q9 c i).1) i=(List.range i).any fun k=>decide ((q9 c k).1=(q9 c i).1):=rfl;rw[hd];cases nmB (q9 c i).1 <;> cases Fq c.2.2.1.length (q9 c i) i <;> cases(List.range i).any (fun k=>decide ((q9 c k).1=(q9 c i).1)) <;> rfl) (fun i s hi hI _=>by
   have hI':0<=s/\s<=(i:Int):=hI;show 0<=(if(q9 c i).2.2.2=true then s+1 else s)/\(if(q9 c i).2.2.2=true then s+1 else s)<=((i+1:Nat):Int);split <;> omega) (fun g s _=>aE) 0 oo
  refine key.trans ?_;rw[o0O];unfold Y1 C2;rw[decide_eq_true hr.1,decide_eq_true hr.2];cases(List.range c.2.2.1.length).any (fun i=>!nmB (q9 c i).1||M9 (fun i=>(q9 c i).1) i) <;> cases(List.range c.2.2.1.length).any (fun i=>!Fq c.2.2.1.length (q9 c i) i) <;> rfl
 ·have e0:(decide ((c.2.2.1.length:Int)<2)||decide (5 < (c.2.2.1.length:Int)))=true:=by
   simp; omega
  have e1:¬Y1 c.2.2.1.length (q9 c)=true:=fun hc=>by
   obtain⟨h1,h2,_⟩:=Vz hc;exact hr ⟨h1,h2⟩
  rw[if_pos e0,if_neg e1]
theorem G0W(c:m4)(hw:wf y163 c):w0d c=some (Az (Lx c.2.2.1.length (q9 c)) c.2.2.2.1.length (m5 c)):=by
 have ha:=Fy hw;have h:=ha.1;have hA:∀(xs:List A5) (o:A5),xs.length<=9223372036854775807->d0W xs o=some (xs.any fun x=>x.1==o.1&&x.2.1==o.2.1&&x.2.2.1==o.2.2.1):=fun xs o hx=>by
  have h1:g0t xs o=_:=b0V hx (fun i=>(xs.getD i (d6 y143)).1==o.1&&(xs.getD i (d6 y143)).2.1==o.2.1&&(xs.getD i (d6 y143)).2.2.1==o.2.2.1) (fun g i hi=>h0t hi hx rfl) (fun g=>aE);have h2:d0W xs o=_:=d0q h1;rw[P3 xs (d6 y143) (fun x=>x.1==o.1&&x.2.1==o.2.1&&x.2.2.1==o.2.2.1)] at h2;exact h2
 have key:=I6 (n:=c.2.2.2.1.length) h (fun i=>!Lx c.2.2.1.length (q9 c) (m5 c i)||Uz (m5 c) i) (some false) (e:=n0f c ()) (F:=w0c c) (fun g i hi=>by
  have e3:((i:Int)).toNat=i:=rfl;have hl:(c.2.2.2.1.take i).length<=9223372036854775807:=by rw[List.length_take]; omega
  have e1:=G0T c (m5 c i) hw (U6 hi ha);have e2:=hA (c.2.2.2.1.take i) (m5 c i) hl;rw[r0f c.2.2.2.1 (d6 y143) _ i (by omega)] at e2;refine(if_pos (by simpa using hi)).trans ?_;rw[e3,gP ⟨oo,trivial⟩,lE,e1,e2,vS,vS,gP ⟨rfl,fun _=>⟨by omega,by omega,by omega⟩,fun _=>rfl,trivial⟩,gP ⟨oo,trivial⟩];rfl) (fun g=>aE)
 refine key.trans ?_;unfold Az n0f;have e:decide ((c.2.2.2.1.length:Int)<=8)=decide (c.2.2.2.1.length<=8):=by rw[decide_eq_decide]; omega
 rw[e];cases(List.range c.2.2.2.1.length).any fun i=>!Lx c.2.2.1.length (q9 c) (m5 c i)||Uz (m5 c) i
 ·simp
 ·simp
theorem Pw{n:Nat}(h:1<=n):((n:Int)-1).toNat=n-1:=by omega
theorem G0V(c:m4)(hw:wf y163 c)(h2:2<=c.2.2.1.length)(h5:c.2.2.1.length<=5):B0y c=some (Wz c.2.1 c.2.2.1.length (q9 c) c.2.2.2.1.length (m5 c) c.2.2.2.2.1):=by
 have hp:=Dy hw;have h:=hp.1;have ht:=hw.2.2.2.2.1.1;have key:=lF (n:=c.2.2.1.length) h (fun i (s:Int)=>(s,(i:Int))) (fun i s=>if(q9 c i).2.2.2=true then s+1 else s) (fun i s=>0<=s/\s<=i) (J:=i0r c) (F:=w0b c) (fun g i s hi hI=>by
  have j2:∀s',n0e (i:Int) g s'=g (s',((i+1:Nat):Int)):=fun s'=>gP ⟨oo,trivial⟩;have e3:((i:Int)).toNat=i:=rfl;refine(if_pos (by simpa using hi)).trans ?_;rw[e3,gP ⟨oo,trivial⟩,lE,gP ⟨oo,trivial⟩,j2,j2];show(if(q9 c i).2.2.2=true then _ else _)=g (if(q9 c i).2.2.2=true then s+1 else s,_);split <;> rfl) (fun i s hi hI=>by
  have hI':0<=s/\s<=(i:Int):=hI;show 0<=(if(q9 c i).2.2.2=true then s+1 else s)/\(if(q9 c i).2.2.2=true then s+1 else s)<=((i+1:Nat):Int);split <;> omega) (fun g s _=>aE) 0 oo
 refine key.trans ?_;show i0r c (H8 c.2.2.1.length (q9 c))=_;have hk:∀k0:Int,i0r c k0=some (if c.2.1=1 then k0==0&&(c.2.2.2.2.1.length:Int)==1*2 ^ (c.2.2.1.length-1)&&c.2.2.2.2.1.all (inB · 0 1)
  else if c.2.1=2 then k0==1&&(c.2.2.2.2.1.length:Int)==0&&!B6 c.2.2.2.1.length (m5 c) 1&&!(B6 c.2.2.2.1.length (m5 c) 2==B6 c.2.2.2.1.length (m5 c) 3)
  else if c.2.1=3 then k0==1&&(c.2.2.2.2.1.length:Int)==0&&B6 c.2.2.2.1.length (m5 c) 1&&B6 c.2.2.2.1.length (m5 c) 2&&!B6 c.2.2.2.1.length (m5 c) 3
  else false):=fun k0=>by
  rw[i0r,Ay c hw,Dz _ _ _ ht,Cy c hw,Cy c hw,Cy c hw]
  repeat rw[vS]
  rw[Pw (by omega)];by_cases k1:c.2.1=1
  ·rw[if_pos (beq_iff_eq.2 k1),if_pos k1,gP ⟨fun _=>rfl,fun _=>⟨by omega,Dh h5⟩,fun _=>rfl,trivial⟩,lE,Pw (by omega)]
  ·rw[if_neg (by simpa using k1),if_neg k1];by_cases k2:c.2.1=2
   ·rw[if_pos (beq_iff_eq.2 k2),if_pos k2,gP ⟨fun _=>rfl,fun _=>rfl,fun _=>rfl,trivial⟩]
   ·rw[if_neg (by simpa using k2),if_neg k2];by_cases k3:c.2.1=3
    ·rw[if_pos (beq_iff_eq.2 k3),if_pos k3,gP ⟨fun _=>rfl,fun _=>rfl,fun _=>rfl,trivial⟩]
    ·rw[if_neg (by simpa using k3),if_neg k3]
 exact hk (H8 c.2.2.1.length (q9 c))
abbrev Jq(q:Nat->(Nat->L6)->H4->Bool)(c:m4):Bool:=O4 q c.1 c.2.1 c.2.2.1.length (q9 c) c.2.2.2.1.length (m5 c) c.2.2.2.2.1 c.2.2.2.2.2.1 c.2.2.2.2.2.2
theorem H0b(c:m4)(hw:wf y163 c)(hm:c.2.2.1.length<=1048576):A0h c=some (Jq D3 c):=by
 have hp:=Dy hw;show _=some (O4 D3 _ _ _ _ _ _ _ _ _);rw[<- z0O];unfold A0h O4;rw[Vm c.1 hw.1,G0X _ hp hm,G0W c hw,X3,X3]
 repeat rw[vS]
 cases hpo:Y1 c.2.2.1.length (q9 c) with
 | false =>
   rw[gP ⟨rfl,fun _=>rfl,fun hc=>by simp at hc,fun hc=>by simp at hc,fun hc=>by simp at hc,fun hc=>by simp at hc,trivial⟩];simp
 | true =>
   obtain⟨h2,h5,_⟩:=Vz hpo;rw[G0V c hw h2 h5,vS,gP ⟨rfl,fun _=>rfl,fun _=>rfl,fun _=>rfl,fun _=>rfl,fun _=>rfl,trivial⟩]
theorem G0Y(c:m4)(hw:wf y163 c)(h8:c.2.2.2.1.length<=8)(hk:∀i,i<c.2.2.2.1.length->1<=(m5 c i).1/\(m5 c i).1<=5):B0C c=some (fN (Bz (m5 c)) c.2.2.2.1.length (List.replicate 6 0)):=by
 have h:=(Fy hw).1;unfold B0C;rw[gP ⟨⟨by omega,rfl,by decide,by omega⟩,trivial⟩];have key:=lF (n:=c.2.2.2.1.length) h (fun i (v:List Int)=>((i:Int),v)) (Bz (m5 c)) (fun i v=>i<=c.2.2.2.1.length/\v=fN (Bz (m5 c)) i (List.replicate 6 0)) (J:=fun v=>some v) (F:=w0g c) (fun g i v hi hI=>by
  obtain⟨h1,h2⟩:=Ck (m5 c) i (fun j hj=>hk j (by omega));obtain⟨k1,k2⟩:=hk i hi;have hlen:v.length=6:=by rw[hI.2]; exact h1
  have hcnt:=h2 (m5 c i).1.toNat (by omega);have hle:=Bw (m5 c) ((m5 c i).1.toNat:Int) i;rw[<- hI.2] at hcnt;have e3:((i:Int)).toNat=i:=rfl;refine(if_pos (by simpa using hi)).trans ?_;have hin:l3 (v.getD (m5 c i).1.toNat 0+1):=by rw[hcnt]; exact oo
  have hix:ix (m5 c i).1 v.length:=oo;have hlt:(m5 c i).1.toNat<v.length:=by omega
  rw[e3,gP ⟨oo,hix,hlt,hin,hix,hlt,trivial⟩,lE,gP ⟨oo,trivial⟩];rfl) (fun i v hi hI=>⟨by omega,by rw[hI.2]; rfl⟩) (fun g s _=>aE) (List.replicate 6 0) ⟨by omega,rfl⟩
 exact key
theorem H0d(c:m4)(hw:wf y163 c):A0j c=some (Jq D3 c):=by
 have ha:=Fy hw;have h:=ha.1;show _=some (O4 D3 _ _ _ _ _ _ _ _ _);unfold A0j O4;rw[H0a c hw,Xk c.1 hw.1,r97,r97]
 repeat rw[vS]
 rw[gP ⟨rfl,trivial⟩,lE,gP ⟨fun _=>rfl,fun _=>rfl,fun _=>rfl,trivial⟩];cases hpo:Y1 c.2.2.1.length (q9 c) with
 | false =>
   have e9:(if false=true then(H8 c.2.2.1.length (q9 c),true) else((0:Int),false))=((0:Int),false):=rfl;rw[e9];refine(if_pos (by rfl)).trans ?_;simp
 | true =>
   obtain⟨h2,h5,_⟩:=Vz hpo;have e9:(if true=true then(H8 c.2.2.1.length (q9 c),true) else((0:Int),false))=(H8 c.2.2.1.length (q9 c),true):=rfl;rw[e9];by_cases hgo:nmB c.1=true/\c.2.2.2.1.length<=8/\inB c.2.2.2.2.2.1 0 100000=true/\inB c.2.2.2.2.2.2 0 100000=true
   ·obtain⟨g1,g2,g3,g4⟩:=hgo;have e0:decide (8 < (c.2.2.2.1.length:Int))=false:=decide_eq_false (by omega);rw[g1,e0,g3,g4];refine(if_neg (by simp)).trans ?_;have key:=I6 (n:=c.2.2.2.1.length) h (fun i=>!D3 c.2.2.1.length (q9 c) (m5 c i)||Uz (m5 c) i) (some false) (e:=n0k c (H8 c.2.2.1.length (q9 c),true) ()) (F:=w0q c (H8 c.2.2.1.length (q9 c),true)) (fun g i hi=>by
     have e3:((i:Int)).toNat=i:=rfl;have e1:=G0Z c (m5 c i) hw (U6 hi ha);have inner:=I6 (n:=i) (by omega) (fun k=>(m5 c k).1==(m5 c i).1&&(m5 c k).2.1==(m5 c i).2.1&&(m5 c k).2.2.1==(m5 c i).2.2.1) (some false) (e:=g ((i:Int)+1)) (F:=w0p c (m5 c i) (i:Int) g) (fun g3 k hk=>d0U hk (by omega) ⟨oo,fun _=>oo,fun _=>oo,trivial⟩) (fun g3=>by
      refine aE.trans ?_;exact gP ⟨oo,trivial⟩)
     refine(if_pos (by simpa using hi)).trans ?_;rw[e3,gP ⟨oo,trivial⟩,lE,e1,vS,gP ⟨rfl,trivial⟩,inner];unfold Uz;cases D3 c.2.2.1.length (q9 c) (m5 c i) <;> cases(List.range i).any (fun k=>(m5 c k).1==(m5 c i).1&&(m5 c k).2.1==(m5 c i).2.1&&(m5 c k).2.2.1==(m5 c i).2.2.1) <;> rfl) (fun g=>aE)
    refine key.trans ?_;unfold Az;rw[decide_eq_true g2];cases hany:(List.range c.2.2.2.1.length).any fun i=>!D3 c.2.2.1.length (q9 c) (m5 c i)||Uz (m5 c) i with
    | true=>simp
    | false =>
      rw[if_neg (by simp)];have hall:∀i,i<c.2.2.2.1.length->D3 c.2.2.1.length (q9 c) (m5 c i)=true:=fun i hi=>by
       have:=(V9 (n:=c.2.2.2.1.length)).1 (by rw[hany]; rfl) i hi;rw[Bool.or_eq_false_iff,Bool.not_eq_false'] at this;exact this.1
      have hkin:=G0Y c hw g2 (fun i hi=>Ch (hall i hi));obtain⟨n6,ncnt⟩:=Ck (m5 c) c.2.2.2.1.length (fun i hi=>Ch (hall i hi));have c1:=ncnt 1 (by omega);have c2:=ncnt 2 (by omega);have c3:=ncnt 3 (by omega);rw[n0k,hkin,vS,gP ⟨rfl,trivial⟩,lE];generalize fN (Bz (m5 c)) c.2.2.2.1.length (List.replicate 6 0)=v at *
      have q1:((v.getD 1 0)==(0:Int))=!B6 c.2.2.2.1.length (m5 c) 1:=by
       rw[c1,Xz];have:=(Bw (m5 c) 1 c.2.2.2.1.length).1;rw[Bool.eq_iff_iff]; simp; omega
      have q1':decide (0<v.getD 1 0)=B6 c.2.2.2.1.length (m5 c) 1:=by rw[c1,Xz]; rfl
      have q2:decide (0<v.getD 2 0)=B6 c.2.2.2.1.length (m5 c) 2:=by rw[c2,Xz]; rfl
      have q3:decide (0<v.getD 3 0)=B6 c.2.2.2.1.length (m5 c) 3:=by rw[c3,Xz]; rfl
      have q3':((v.getD 3 0)==(0:Int))=!B6 c.2.2.2.1.length (m5 c) 3:=by
       rw[c3,Xz];have:=(Bw (m5 c) 3 c.2.2.2.1.length).1;rw[Bool.eq_iff_iff]; simp; omega
      have i1:ix (1:Int) v.length:=oo;have i2:ix (2:Int) v.length:=oo;have i3:ix (3:Int) v.length:=oo;have n1:Int.toNat (1:Int)<v.length:=by rw[n6]; decide
      have n2:Int.toNat (2:Int)<v.length:=by rw[n6]; decide
      have n3:Int.toNat (3:Int)<v.length:=by rw[n6]; decide
      unfold Wz;by_cases k1:c.2.1=1
      ·rw[if_pos (beq_iff_eq.2 k1),if_pos k1];have ht:=hw.2.2.2.2.1.1;have key2:=I6 (n:=c.2.2.2.2.1.length) ht (fun i=>!inB (c.2.2.2.2.1.getD i 0) 0 1) (some false) (e:=k0m (H8 c.2.2.1.length (q9 c),true) c ()) (F:=w0o c (H8 c.2.2.1.length (q9 c),true)) (fun g i hi=>d0U hi ht ⟨oo,rfl,trivial⟩) (fun g=>aE);refine key2.trans ?_;rw[P3 c.2.2.2.2.1 0 (fun x=>!inB x 0 1),<- Dq];have e5:k0m (H8 c.2.2.1.length (q9 c),true) c ()=some (H8 c.2.2.1.length (q9 c)==0&&(c.2.2.2.2.1.length:Int)==1*2 ^ (c.2.2.1.length-1)):=by
        rw[k0m,Pw (by omega),gP ⟨fun _=>oo,fun _=>oo,fun _=>⟨by omega,Dh h5⟩,trivial⟩]
       rw[e5];cases c.2.2.2.2.1.any fun x=>!inB x 0 1 <;> simp
      ·rw[if_neg (by simpa using k1),if_neg k1];by_cases k2:c.2.1=2
       ·rw[if_pos (beq_iff_eq.2 k2),if_pos k2,gP ⟨fun _=>i1,fun _=>n1,fun _=>i2,fun _=>n2,fun _=>i3,fun _=>n3,trivial⟩];have w1:Int.toNat (1:Int)=1:=rfl;have w2:Int.toNat (2:Int)=2:=rfl;have w3:Int.toNat (3:Int)=3:=rfl;rw[w1,w2,w3,q1,q2,q3];cases H8 c.2.2.1.length (q9 c)==1 <;> cases(c.2.2.2.2.1.length:Int)==0 <;> cases B6 c.2.2.2.1.length (m5 c) 1 <;> cases B6 c.2.2.2.1.length (m5 c) 2 <;> cases B6 c.2.2.2.1.length (m5 c) 3 <;> rfl
       ·rw[if_neg (by simpa using k2),if_neg k2];by_cases k3:c.2.1=3
        ·rw[if_pos (beq_iff_eq.2 k3),if_pos k3,gP ⟨fun _=>i1,fun _=>n1,fun _=>i2,fun _=>n2,fun _=>i3,fun _=>n3,trivial⟩];have w1:Int.toNat (1:Int)=1:=rfl;have w2:Int.toNat (2:Int)=2:=rfl;have w3:Int.toNat (3:Int)=3:=rfl;rw[w1,w2,w3,q1',q2,q3'];cases H8 c.2.2.1.length (q9 c)==1 <;> cases(c.2.2.2.2.1.length:Int)==0 <;> cases B6 c.2.2.2.1.length (m5 c) 1 <;> cases B6 c.2.2.2.1.length (m5 c) 2 <;> cases B6 c.2.2.2.1.length (m5 c) 3 <;> rfl
        ·rw[if_neg (by simpa using k3),if_neg k3];rfl
   ·have e0:(!nmB c.1||decide (8 < (c.2.2.2.1.length:Int))||!inB c.2.2.2.2.2.1 0 100000||!inB c.2.2.2.2.2.2 0 100000)=true:=by
     rw[<- Bool.not_eq_false];intro hc;simp only[Bool.or_eq_false_iff,Bool.not_eq_false',decide_eq_false_iff_not] at hc;exact hgo ⟨hc.1.1.1,by omega,hc.1.2,hc.2⟩
    refine(if_pos (by simpa using e0)).trans ?_;have e1:¬(nmB c.1=true/\decide (c.2.2.2.1.length<=8)=true/\inB c.2.2.2.2.2.1 0 100000=true/\inB c.2.2.2.2.2.2 0 100000=true):=fun hc=>hgo ⟨hc.1,by simpa using hc.2.1,hc.2.2⟩;refine congrArg some ?_;unfold Az
    symm
    rw[<- Bool.not_eq_true];intro hc;simp only[ba] at hc;exact e1 ⟨hc.1.1.1.1.1,hc.1.1.1.2.1,hc.1.1.2,hc.1.2⟩
abbrev O6(l:List m4)(i:Nat):m4:=l.getD i (d6 y163)
abbrev Px(l:List m4):Bool:=Fx l.length (fun i=>Jq D3 (O6 l i)) (fun i=>(O6 l i).1)
theorem s0N{c:m4}(h:Jq D3 c=true):nmB c.1=true:=by
 have h:O4 D3 _ _ _ _ _ _ _ _ _=true:=h;unfold O4 at h;simp only[ba] at h;exact h.1.1.1.1.1
theorem H0l(l:List m4)(hw:wf (.sl y163) l)(hm:cnt (.sl y163) l<=1048576):A0l l=some (Px l):=by
 have h:=hw.1;have hl:=c0u hm;have key:=f0j (n:=l.length) h (fun i (s:List ByteArray)=>(s,(i:Int))) (U7 fun i=>(O6 l i).1) (fun i=>!Jq D3 (O6 l i)) (some false) (fun i s=>s.length=i) (J:=k0q l) (F:=w0A l) (fun g i s hi hI=>by
  have e3:((i:Int)).toNat=i:=rfl;have hc:cnt y163 (O6 l i)<=1048576:=C0K hi hm;have hp:(O6 l i).2.2.1.length<=1048576:=c0u (cF (cS (cS hc)));have e1:=H0b (O6 l i) (U6 hi hw) hp;have ha:=Gv (b:=16) hi hl (by decide);refine(if_pos (by simpa using hi)).trans ?_;rw[e3,gP ⟨oo,trivial⟩,lE,e1,vS,gP ⟨rfl,trivial⟩,gP ⟨⟨by show s.length+1<=_; omega,by show(s.length+1)*16<=_; omega⟩,trivial⟩,gP ⟨oo,trivial⟩];rfl) (fun i s hi hI _=>by unfold U7; rw[List.length_append,hI]; rfl) (fun g s _=>aE) [] rfl
 refine key.trans ?_;rw[Gj l (d6 y163) (fun c:m4=>c.1)];have hn:wf (.sl .str) (l.map fun c:m4=>c.1):=Fj h fun x hx=>(hw.2 x hx).1;have e7:∀v:List ByteArray,wf (.sl .str) v->k0q l v=some (decide (l.length<=8)&&C2 v.length fun i=>v.getD i (d6 .str)):=fun v hv=>by
  have e8:decide ((l.length:Int)<=8)=decide (l.length<=8):=by rw[decide_eq_decide]; omega
  rw[k0q,Mw _ hv,vS,gP ⟨fun _=>rfl,trivial⟩,e8]
 rw[e7 _ hn,Dj l (fun c:m4=>c.1) (d6 y163)];show _=some (Fx _ _ _);rw[<- C0u (fun i _ hc=>s0N hc)];split <;> rfl
theorem H0q(l:List m4)(hw:wf (.sl y163) l):A0o l=some (Px l):=by
 have h:=hw.1;have key:=I6 (n:=l.length) h (fun i=>!Jq D3 (O6 l i)||M9 (fun i=>(O6 l i).1) i) (some false) (e:=n0s l ()) (F:=x0e l) (fun g i hi=>by
  have e3:((i:Int)).toNat=i:=rfl;have e1:=H0d (O6 l i) (U6 hi hw);have inner:=I6 (n:=i) (by omega) (fun k=>decide ((O6 l k).1=(O6 l i).1)) (some false) (e:=g ((i:Int)+1)) (F:=x0d l (i:Int) g) (fun g3 k hk=>d0U hk (by omega) ⟨oo,oo,trivial⟩) (fun g3=>by
   refine aE.trans ?_;exact gP ⟨oo,trivial⟩)
  refine(if_pos (by simpa using hi)).trans ?_;rw[e3,e1,vS,gP ⟨oo,rfl,trivial⟩,inner];unfold M9;cases Jq D3 (O6 l i) <;> cases(List.range i).any (fun k=>decide ((O6 l k).1=(O6 l i).1)) <;> rfl) (fun g=>aE)
 refine key.trans ?_;show _=some (Fx _ _ _);unfold Fx n0s;have e8:decide ((l.length:Int)<=8)=decide (l.length<=8):=by rw[decide_eq_decide]; omega
 rw[e8];cases(List.range l.length).any (fun i=>!Jq D3 (O6 l i)||M9 (fun i=>(O6 l i).1) i) <;> rfl
abbrev m6(d:Y31)(i:Nat):m7:=d.1.getD i (d6 y165)
abbrev A4(d:Y31)(i:Nat):r7:=d.2.2.getD i (d6 y175)
abbrev M3(l:List m4)(x:Int):Nat:=(l.getD x.toNat (d6 y163)).2.2.1.length
abbrev Fz(l:List m4)(d:Y31):Bool:=Gx (Px l) l.length (M3 l) d.1.length d.2.2.length d.2.1.length (m6 d) (A4 d) (fun i=>d.2.1.getD i (d6 .str))
theorem Ab(d:Y31)(hw:wf y31 d)(x:Int):t0M d x=some (inB x 0 ((d.2.1.length:Int)-1)):=by
 have h:=hw.2.1.1;have e:y0D d.2.1=some (d.2.1.length:Int):=rfl;unfold t0M;rw[e]
 repeat rw[vS]
 rw[X3,vS,gP ⟨rfl,oo,rfl,trivial⟩]
theorem H0j(d:Y31)(l:List m4)(x:m7)(hd:wf y31 d)(hl:wf (.sl y163) l)(hx:wf y165 x):A0k d l x=some (N1 l.length (M3 l) d.2.1.length x):=by
 have h:=hl.1;have hn:=hx.2.2.1;have e:t0J l=some (l.length:Int):=rfl;have e1:∀y,A0g y d=some (!inB y 0 ((d.2.1.length:Int)-1)):=fun y=>by
  unfold A0g;rw[Ab d hd,gP ⟨rfl,trivial⟩,vS]
 have h1:g0u x.2.2 d=_:=b0V hn (fun i=>!inB (x.2.2.getD i 0) 0 ((d.2.1.length:Int)-1)) (fun g i hi=>h0t hi hn (e1 _)) (fun g=>aE);have h2:e0X x.2.2 d=_:=d0q h1;rw[P3 x.2.2 0 (fun y=>!inB y 0 ((d.2.1.length:Int)-1))] at h2;unfold A0k;rw[e,h2]
 repeat rw[vS]
 rw[X3,vS,gP ⟨rfl,oo,rfl,fun hc=>by
  have:=D1.1 hc.1;exact oo,fun _=>rfl,trivial⟩,Dq]
 rfl
theorem H0k(d:Y31)(hw:wf y31 d)(hm:cnt y31 d<=1048576):B0K d=some (decide (d.1.length<=14)&&decide (d.2.1.length<=30)&&decide (d.2.2.length<=8)&&C2 d.1.length (fun i=>(m6 d i).1)&&C2 d.2.1.length (fun i=>d.2.1.getD i (d6 .str))&&C2 d.2.2.length (fun i=>(A4 d i).1)):=by
 have hi0:=hw.1.1;have hp0:=hw.2.2.1;have hil:d.1.length<=1048576:=c0u (cF hm);have hpl:d.2.2.length<=1048576:=c0u (cS (cS hm));have key:=lF (n:=d.1.length) hi0 (fun i (s:List ByteArray)=>(s,(i:Int))) (U7 fun i=>(m6 d i).1) (fun i s=>s.length=i) (J:=k0p d) (F:=w0z d) (fun g i s hi hI=>by
  have e3:((i:Int)).toNat=i:=rfl;have ha:=Gv (b:=16) hi hil (by decide);refine(if_pos (by simpa using hi)).trans ?_;rw[e3,gP ⟨oo,trivial⟩,lE,gP ⟨⟨by show s.length+1<=_; omega,by show(s.length+1)*16<=_; omega⟩,trivial⟩,gP ⟨oo,trivial⟩];rfl) (fun i s hi hI=>by unfold U7; rw[List.length_append,hI]; rfl) (fun g s _=>aE) [] rfl
 refine key.trans ?_;rw[Gj d.1 (d6 y165) (fun c:m7=>c.1)];have hn1:wf (.sl .str) (d.1.map fun c:m7=>c.1):=Fj hi0 fun x hx=>(hw.1.2 x hx).1;have hn2:wf (.sl .str) (d.2.2.map fun c:r7=>c.1):=Fj hp0 fun x hx=>(hw.2.2.2 x hx).1;have e7:∀v:List ByteArray,wf (.sl .str) v->v.length=d.1.length->k0p d v=some (decide (d.1.length<=14)&&decide (d.2.1.length<=30)&&decide (d.2.2.length<=8)&&(C2 v.length fun i=>v.getD i (d6 .str))&&C2 d.2.1.length (fun i=>d.2.1.getD i (d6 .str))&&C2 d.2.2.length (fun i=>(A4 d i).1)):=fun v hv hvl=>by
  rw[k0p];have key2:=lF (n:=d.2.2.length) hp0 (fun i (s:List ByteArray)=>(s,(i:Int))) (U7 fun i=>(A4 d i).1) (fun i s=>s.length=i) (J:=k0o v d) (F:=w0y d v) (fun g i s hi hI=>by
   have e3:((i:Int)).toNat=i:=rfl;have ha:=Gv (b:=16) hi hpl (by decide);refine(if_pos (by simpa using hi)).trans ?_;rw[e3,gP ⟨oo,trivial⟩,lE,gP ⟨⟨by show s.length+1<=_; omega,by show(s.length+1)*16<=_; omega⟩,trivial⟩,gP ⟨oo,trivial⟩];rfl) (fun i s hi hI=>by unfold U7; rw[List.length_append,hI]; rfl) (fun g s _=>aE) [] rfl
  refine key2.trans ?_;rw[Gj d.2.2 (d6 y175) (fun c:r7=>c.1)];have e9:∀z:List ByteArray,wf (.sl .str) z->z.length=d.2.2.length->k0o v d z=some (decide (d.1.length<=14)&&decide (d.2.1.length<=30)&&decide (d.2.2.length<=8)&&(C2 v.length fun i=>v.getD i (d6 .str))&&C2 d.2.1.length (fun i=>d.2.1.getD i (d6 .str))&&C2 z.length (fun i=>z.getD i (d6 .str))):=fun z hz hzl=>by
   have a1:decide ((v.length:Int)<=14)=decide (d.1.length<=14):=by rw[decide_eq_decide]; omega
   have a2:decide ((d.2.1.length:Int)<=30)=decide (d.2.1.length<=30):=by rw[decide_eq_decide]; omega
   have a3:decide ((z.length:Int)<=8)=decide (d.2.2.length<=8):=by rw[decide_eq_decide]; omega
   rw[k0o,Mw _ hv,Mw _ hz,Mw _ hw.2.1,vS,vS,vS,gP ⟨fun _=>rfl,fun _=>rfl,fun _=>rfl,trivial⟩,a1,a2,a3]
  rw[e9 _ hn2 (List.length_map _),Dj d.2.2 (fun c:r7=>c.1) (d6 y175)]
 rw[e7 _ hn1 (List.length_map _),Dj d.1 (fun c:m7=>c.1) (d6 y165)]
theorem Hv{l:List m4}(h:Px l=true){x:Int}(hx:inB x 0 ((l.length:Int)-1)=true):2<=M3 l x/\M3 l x<=5:=by
 have h:Fx _ _ _=true:=h;unfold Fx at h;rw[ba] at h;rw[D1] at hx;have:=V9.1 h.1 x.toNat (by omega);rw[Bool.or_eq_false_iff,Bool.not_eq_false'] at this;have hc:O4 D3 _ _ _ _ _ _ _ _ _=true:=this.1;unfold O4 at hc;simp only[ba] at hc;have:=Vz hc.1.1.1.1.2;exact⟨this.1,this.2.1⟩
theorem Gy{nc nn:Nat}{pins:Int->Nat}{x:C9}(h:N1 nc pins nn x=true)(hp:∀y,inB y 0 ((nc:Int)-1)=true->2<=pins y):1<=x.2.2.length/\inB (x.2.2.getD (x.2.2.length-1) 0) 0 ((nn:Int)-1)=true:=by
 unfold N1 at h;simp only[ba,beq_iff_eq] at h;have h2:=hp _ h.1.1;have h3:1<=x.2.2.length:=by omega
 refine⟨h3,?_⟩;rw[gq,List.getElem?_eq_getElem (by omega)];exact List.all_eq_true.1 h.2 _ (List.getElem_mem _)
theorem H0p(l:List m4)(d:Y31)(hl:wf (.sl y163) l)(hd:wf y31 d):B0O l d=some (!((List.range d.1.length).any fun i=>!N1 l.length (M3 l) d.2.1.length (m6 d i))&&!((List.range d.2.2.length).any fun i=>!N8 d.2.1.length (A4 d i))):=by
 have h:=hl.1;have hi0:=hd.1.1;have hp0:=hd.2.2.1;have hn0:=hd.2.1.1;have kj:n0r d ()=some (!((List.range d.2.2.length).any fun i=>!N8 d.2.1.length (A4 d i))):=by
  have key:=I6 (n:=d.2.2.length) hp0 (fun i=>!N8 d.2.1.length (A4 d i)) (some false) (e:=some true) (F:=w0Y d) (fun g i hi=>by
   have e3:((i:Int)).toNat=i:=rfl;refine(if_pos (by simpa using hi)).trans ?_;rw[e3,r97,r97,vS,vS,gP ⟨oo,rfl,fun _=>oo,fun _=>oo,fun _=>rfl,trivial⟩,gP ⟨oo,trivial⟩];unfold N8;rw[Bool.not_and]) (fun g=>aE)
  refine key.trans ?_;cases(List.range d.2.2.length).any fun i=>!N8 d.2.1.length (A4 d i) <;> rfl
 have key:=I6 (n:=d.1.length) hi0 (fun i=>!N1 l.length (M3 l) d.2.1.length (m6 d i)) (some false) (e:=n0r d ()) (F:=x0a d l) (fun g i hi=>by
  have e3:((i:Int)).toNat=i:=rfl;have hx:=U6 (d:=d6 y165) hi hd.1;have hn:=hx.2.2.1;refine(if_pos (by simpa using hi)).trans ?_;rw[e3,gP ⟨oo,trivial⟩,lE,r97,vS,gP ⟨oo,rfl,fun hc=>by
   have:=hc.1;rw[Bool.not_eq_false'] at this;have:=D1.1 this;exact oo,trivial⟩]
  have inner:=I6 (n:=(m6 d i).2.2.length) hn (fun k=>!inB ((m6 d i).2.2.getD k 0) 0 ((d.2.1.length:Int)-1)) (some false) (e:=g ((i:Int)+1)) (F:=w0Z (m6 d i) d (i:Int) g) (fun g3 k hk=>by
   refine(d0U hk hn ⟨oo,oo,rfl,trivial⟩).trans ?_;rfl) (fun g3=>by
   refine aE.trans ?_;exact gP ⟨oo,trivial⟩)
  rw[P3 (m6 d i).2.2 0 (fun y=>!inB y 0 ((d.2.1.length:Int)-1))] at inner;rw[inner];unfold N1;rw[<- Dq];have n1:((((m6 d i).2.2.length:Nat):Int) != ((M3 l (m6 d i).2.1:Nat):Int))=!((((m6 d i).2.2.length:Nat):Int)==((M3 l (m6 d i).2.1:Nat):Int)):=rfl;show(if(!inB (m6 d i).2.1 0 ((l.length:Int)-1)||(((m6 d i).2.2.length:Nat):Int) != ((M3 l (m6 d i).2.1:Nat):Int))=true then some false else if((m6 d i).2.2.any fun y=>!inB y 0 ((d.2.1.length:Int)-1))=true then some false else g ((i:Int)+1))=_;rw[n1];cases inB (m6 d i).2.1 0 ((l.length:Int)-1) <;> cases((((m6 d i).2.2.length:Nat):Int)==((M3 l (m6 d i).2.1:Nat):Int)) <;> cases((m6 d i).2.2.any fun y=>!inB y 0 ((d.2.1.length:Int)-1)) <;> rfl) (fun g=>aE)
 refine key.trans ?_;rw[kj];cases(List.range d.1.length).any fun i=>!N1 l.length (M3 l) d.2.1.length (m6 d i) <;> rfl
theorem Bb(v:List Int):(!v.any fun x=>x != 1)=v.all (·==1):=Dq v (fun x=>x==1)
theorem Hy{n b:Nat}(h:n<=1048576)(hb:b<=4096):(0<=(n:Int)/\(n:Int)=(n:Int)/\(n:Int).toNat*b<=281474976710656/\(n:Int)<=9223372036854775807)/\True:=by
 have hm:n*b<=1048576*4096:=Nat.mul_le_mul h hb;exact⟨⟨by omega,rfl,by rw[Int.toNat_natCast]; omega,by omega⟩,trivial⟩
theorem Qw{v:List Int}{n b:Nat}{x:Int}(h:W9 v n b)(hb:b<=2097152)(hx:inB x 0 ((n:Int)-1)=true):ix x v.length/\x.toNat<v.length/\l3 (v.getD x.toNat 0+1)/\ix x v.length/\x.toNat<v.length/\True:=by
 obtain⟨h1,h2⟩:=u0K h hx;have:=h.2 x.toNat;exact⟨h1,h2,oo,h1,h2,trivial⟩
theorem Jv{n:Nat}(h1:1<=n)(h:n<=9223372036854775807):l3 ((n:Int)-1)/\ix ((n:Int)-1) n:=⟨oo,oo⟩
theorem H0u(l:List m4)(d:Y31)(hl:wf (.sl y163) l)(hd:wf y31 d)(ml:cnt (.sl y163) l<=1048576)(md:cnt y31 d<=1048576):A0q l d=some (Fz l d):=by
 have hi0:=hd.1.1;have hp0:=hd.2.2.1;have mi:d.1.length<=1048576:=c0u (cF md);have mn:d.2.1.length<=1048576:=c0u (cF (cS md));have mp:d.2.2.length<=1048576:=c0u (cS (cS md));show _=some (Gx _ _ _ _ _ _ _ _ _);unfold A0q Gx;rw[H0l l hl ml,H0k d hd md,vS,vS,gP ⟨rfl,fun _=>rfl,trivial⟩];cases hlo:Px l with
 | false=>exact if_pos rfl
 | true =>
   rw[Bool.true_and];cases hno:(decide (d.1.length<=14)&&decide (d.2.1.length<=30)&&decide (d.2.2.length<=8)&&C2 d.1.length (fun i=>(m6 d i).1)&&C2 d.2.1.length (fun i=>d.2.1.getD i (d6 .str))&&C2 d.2.2.length (fun i=>(A4 d i).1)) with
   | false=>exact if_pos rfl
   | true =>
     refine(if_neg (by simp)).trans ?_;rw[gP (Hy mn (by decide)),Int.toNat_natCast];have hpin:∀y,inB y 0 ((l.length:Int)-1)=true->2<=M3 l y:=fun y hy=>(Hv hlo hy).1;have key:=f0j (n:=d.1.length) hi0 (fun i (v:List Int)=>((i:Int),v)) (P4 (m6 d)) (fun i=>!N1 l.length (M3 l) d.2.1.length (m6 d i)) (some false) (fun i v=>i<=d.1.length/\W9 v d.2.1.length i) (J:=n0v d) (F:=x0n d l) (fun g i v hi hI=>by
      have e3:((i:Int)).toNat=i:=rfl;have hx:=U6 (d:=d6 y165) hi hd.1;refine(if_pos (by simpa using hi)).trans ?_;rw[e3,gP ⟨oo,trivial⟩,lE,H0j d l _ hd hl hx,vS,gP ⟨rfl,trivial⟩];cases hin:N1 l.length (M3 l) d.2.1.length (m6 d i) with
      | false=>rfl
      | true =>
        obtain⟨g1,g2⟩:=Gy hin hpin;have hlen:(m6 d i).2.2.length<=9223372036854775807:=hx.2.2.1;refine(if_neg (by simp)).trans ?_;rw[Pw g1,gP ⟨(Jv g1 hlen).1,(Jv g1 hlen).2,Qw hI.2 (by omega) g2⟩,lE,gP ⟨oo,trivial⟩];rfl) (fun i v hi hI _=>⟨by omega,Yz hI.2 _⟩) (fun g v _=>aE) (List.replicate d.2.1.length 0) ⟨by omega,Yw _ _⟩
     refine key.trans ?_;cases hia:(List.range d.1.length).any fun i=>!N1 l.length (M3 l) d.2.1.length (m6 d i) with
     | true=>simp
     | false =>
       refine(if_neg (by simp)).trans ?_;have hlow:=Fk (m6 d) d.2.1.length d.1.length;unfold Tx;generalize fN (P4 (m6 d)) d.1.length (List.replicate d.2.1.length 0)=v0 at *
       rw[n0v];have key2:=f0j (n:=d.2.2.length) hp0 (fun i (v:List Int)=>((i:Int),v)) (K3 (A4 d)) (fun i=>!N8 d.2.1.length (A4 d i)) (some false) (fun i v=>i<=d.2.2.length/\W9 v d.2.1.length (d.1.length+i)) (J:=k0u) (F:=x0m d) (fun g i v hi hI=>by
        have e3:((i:Int)).toNat=i:=rfl;have j4:∀v',n0u (i:Int) g v'=g (((i+1:Nat):Int),v'):=fun v'=>gP ⟨oo,trivial⟩;refine(if_pos (by simpa using hi)).trans ?_;rw[e3,gP ⟨oo,trivial⟩,lE,Ab d hd,vS,gP ⟨fun _=>rfl,trivial⟩,j4,j4];have e5:((A4 d i).2.1 != 1&&(A4 d i).2.1 != 2||!inB (A4 d i).2.2 0 ((d.2.1.length:Int)-1))=!N8 d.2.1.length (A4 d i):=by
         unfold N8;rw[Bool.not_and];congr 1;rw[Bool.eq_iff_iff];simp only[ba,bne_iff_ne,Bool.not_eq_true',<- Bool.not_eq_true,D1];omega
        show(if((A4 d i).2.1 != 1&&(A4 d i).2.1 != 2||!inB (A4 d i).2.2 0 ((d.2.1.length:Int)-1))=true then some false else _)=_;rw[e5];cases hpo:N8 d.2.1.length (A4 d i) with
        | false=>rfl
        | true =>
          have hnet:inB (A4 d i).2.2 0 ((d.2.1.length:Int)-1)=true:=by
           unfold N8 at hpo;rw[ba] at hpo;exact hpo.2
          refine(if_neg (by simp)).trans ?_;show _=g (_,K3 (A4 d) i v);unfold K3;by_cases k1:(A4 d i).2.1=1
          ·rw[if_pos (beq_iff_eq.2 k1),if_pos k1];exact gP (Qw hI.2 (by omega) hnet)
          ·rw[if_neg (by simpa using k1),if_neg k1]) (fun i v hi hI _=>⟨by omega,by
          unfold K3;split
          ·exact Yz hI.2 _
          ·exact Dk hI.2 (by omega)⟩) (fun g v _=>aE) v0 ⟨by omega,hlow⟩
       refine key2.trans ?_;cases hpa:(List.range d.2.2.length).any fun i=>!N8 d.2.1.length (A4 d i) with
       | true=>simp
       | false =>
         refine(if_neg (by simp)).trans ?_;have hv:∀v:List Int,v.length<=9223372036854775807->k0u v=some (v.all (·==1)):=fun v hv=>by
          have h1:g0x v=_:=b0V hv (fun i=>v.getD i 0 != 1) (fun g i hi=>h0t hi hv rfl) (fun g=>aE);have h2:e0Z v=_:=d0q h1;rw[P3 v 0 (fun x=>x != 1)] at h2;rw[k0u,h2,vS,gP ⟨rfl,trivial⟩,Bb]
         have hlen:(fN (K3 (A4 d)) d.2.2.length v0).length<=9223372036854775807:=by
          have:∀n,(fN (K3 (A4 d)) n v0).length=v0.length:=by
           intro n
           induction n with
           | zero=>rfl
           | succ n ih =>
             rw[fN];unfold K3;split
             ·unfold Sq; rw[List.length_set]; exact ih
             ·exact ih
          rw[this,hlow.1]; omega
         rw[hv _ hlen];rfl
theorem r69(l:List m4)(d:Y31)(hl:wf (.sl y163) l)(hd:wf y31 d)(md:cnt y31 d<=1048576):u69 l d=some (Fz l d):=by
 have hi0:=hd.1.1;have hp0:=hd.2.2.1;have mi:d.1.length<=1048576:=c0u (cF md);have mn:d.2.1.length<=1048576:=c0u (cF (cS md));have mp:d.2.2.length<=1048576:=c0u (cS (cS md));show _=some (Gx _ _ _ _ _ _ _ _ _);unfold u69;rw[H0q l hl,H0p l d hl hd,vS,vS,gP ⟨rfl,fun _=>rfl,trivial⟩];by_cases hgo:Px l=true/\d.1.length<=14/\d.2.1.length<=30/\d.2.2.length<=8/\((List.range d.1.length).any fun i=>!N1 l.length (M3 l) d.2.1.length (m6 d i))=false/\((List.range d.2.2.length).any fun i=>!N8 d.2.1.length (A4 d i))=false
 ·obtain⟨hlo,h14,h30,h8,hia,hpa⟩:=hgo;have a1:decide (14 < (d.1.length:Int))=false:=decide_eq_false (by omega);have a2:decide (30 < (d.2.1.length:Int))=false:=decide_eq_false (by omega);have a3:decide (8 < (d.2.2.length:Int))=false:=decide_eq_false (by omega);rw[hlo,a1,a2,a3,hia,hpa];refine(if_neg (by simp)).trans ?_;have hpin:∀y,inB y 0 ((l.length:Int)-1)=true->2<=M3 l y:=fun y hy=>(Hv hlo hy).1;have hall:∀i,i<d.1.length->N1 l.length (M3 l) d.2.1.length (m6 d i)=true:=fun i hi=>by
   have:=(V9 (n:=d.1.length) (c:=fun i=>!N1 l.length (M3 l) d.2.1.length (m6 d i))).1 (by rw[hia]; rfl) i hi
   rwa [Bool.not_eq_false'] at this
  have hpall:∀i,i<d.2.2.length->N8 d.2.1.length (A4 d i)=true:=fun i hi=>by
   have:=(V9 (n:=d.2.2.length) (c:=fun i=>!N8 d.2.1.length (A4 d i))).1 (by rw[hpa]; rfl) i hi
   rwa [Bool.not_eq_false'] at this
  have k10:∀v:List Int,v.length<=9223372036854775807->q0o v=some (v.all (·==1)):=fun v hv=>by
   rw[q0o];have key:=I6 (n:=v.length) hv (fun i=>v.getD i 0 != 1) (some false) (e:=some true) (F:=v0N v) (fun g i hi=>by
    refine(d0U hi hv ⟨oo,by rw[Int.toNat_natCast]; exact hi,trivial⟩).trans ?_;rfl) (fun g=>aE)
   refine key.trans ?_;rw[P3 v 0 (fun x=>x != 1),<- Bb];cases v.any fun x=>x != 1 <;> rfl
  have k7:∀v:List Int,W9 v d.2.1.length d.1.length->q0p d v=some ((fN (K3 (A4 d)) d.2.2.length v).all (·==1)):=fun v0 hlow=>by
   rw[q0p];have key:=lF (n:=d.2.2.length) hp0 (fun i (v:List Int)=>((i:Int),v)) (K3 (A4 d)) (fun i v=>i<=d.2.2.length/\W9 v d.2.1.length (d.1.length+i)) (J:=q0o) (F:=A0X d) (fun g i v hi hI=>by
    have e3:((i:Int)).toNat=i:=rfl;have j8:∀v',t0z (i:Int) g v'=g (((i+1:Nat):Int),v'):=fun v'=>gP ⟨oo,trivial⟩;have hnet:inB (A4 d i).2.2 0 ((d.2.1.length:Int)-1)=true:=by
     have:=hpall i hi;unfold N8 at this;rw[ba] at this;exact this.2
    refine(if_pos (by simpa using hi)).trans ?_;rw[e3,gP ⟨oo,trivial⟩,j8];show(if((A4 d i).2.1==1)=true then _ else _)=g (_,K3 (A4 d) i v);unfold K3;by_cases k1:(A4 d i).2.1=1
    ·rw[if_pos (beq_iff_eq.2 k1),if_pos k1];refine(gP ⟨oo,Qw hI.2 (by omega) hnet⟩).trans ?_;rw[lE];exact j8 _
    ·rw[if_neg (by simpa using k1),if_neg k1]) (fun i v hi hI=>⟨by omega,by
    unfold K3;split
    ·exact Yz hI.2 _
    ·exact Dk hI.2 (by omega)⟩) (fun g v _=>aE) v0 ⟨by omega,hlow⟩
   refine key.trans (k10 _ ?_);have:∀n,(fN (K3 (A4 d)) n v0).length=v0.length:=by
    intro n
    induction n with
    | zero=>rfl
    | succ n ih =>
      rw[fN];unfold K3;split
      ·unfold Sq; rw[List.length_set]; exact ih
      ·exact ih
   rw[this,hlow.1]; omega
  have k5:lp (y0q d) ((0:Int),List.replicate d.2.1.length 0)=some ((Tx d.1.length d.2.2.length d.2.1.length (m6 d) (A4 d)).all (·==1)):=by
   have key:=lF (n:=d.1.length) hi0 (fun i (v:List Int)=>((i:Int),v)) (P4 (m6 d)) (fun i v=>i<=d.1.length/\W9 v d.2.1.length i) (J:=q0p d) (F:=y0q d) (fun g i v hi hI=>by
    have e3:((i:Int)).toNat=i:=rfl;have hx:=U6 (d:=d6 y165) hi hd.1;obtain⟨g1,g2⟩:=Gy (hall i hi) hpin;have hlen:(m6 d i).2.2.length<=9223372036854775807:=hx.2.2.1;refine(if_pos (by simpa using hi)).trans ?_;rw[e3,gP ⟨oo,trivial⟩,lE,Pw g1,gP ⟨(Jv g1 hlen).1,(Jv g1 hlen).2,Qw hI.2 (by omega) g2⟩,lE,gP ⟨oo,trivial⟩];rfl) (fun i v hi hI=>⟨by omega,Yz hI.2 _⟩) (fun g v _=>aE) (List.replicate d.2.1.length 0) ⟨by omega,Yw _ _⟩
   refine key.trans (k7 _ (Fk _ _ _))
  have hn1:wf (.sl .str) (d.1.map fun c:m7=>c.1):=Fj hi0 fun x hx=>(hd.1.2 x hx).1;have hn2:wf (.sl .str) (d.2.2.map fun c:r7=>c.1):=Fj hp0 fun x hx=>(hd.2.2.2 x hx).1;have k2:∀v z:List ByteArray,wf (.sl .str) v->wf (.sl .str) z->q0q d v z=some ((C2 v.length fun i=>v.getD i (d6 .str))&&(C2 z.length fun i=>z.getD i (d6 .str))&&C2 d.2.1.length (fun i=>d.2.1.getD i (d6 .str))&&(Tx d.1.length d.2.2.length d.2.1.length (m6 d) (A4 d)).all (·==1)):=fun v z hv hz=>by
   rw[q0q,Yk _ hv,Yk _ hz,Yk _ hd.2.1,vS,vS,vS,gP ⟨rfl,fun _=>rfl,fun _=>rfl,trivial⟩,gP (Hy mn (by decide)),Int.toNat_natCast,k5];cases(C2 v.length fun i=>v.getD i (d6 .str)) <;> cases(C2 z.length fun i=>z.getD i (d6 .str)) <;> cases C2 d.2.1.length (fun i=>d.2.1.getD i (d6 .str)) <;> rfl
  have k3:∀v:List ByteArray,wf (.sl .str) v->q0r d v=some ((C2 v.length fun i=>v.getD i (d6 .str))&&C2 d.2.2.length (fun i=>(A4 d i).1)&&C2 d.2.1.length (fun i=>d.2.1.getD i (d6 .str))&&(Tx d.1.length d.2.2.length d.2.1.length (m6 d) (A4 d)).all (·==1)):=fun v hv=>by
   rw[q0r];have key:=lF (n:=d.2.2.length) hp0 (fun i (s:List ByteArray)=>((i:Int),s)) (U7 fun i=>(A4 d i).1) (fun i s=>s.length=i) (J:=q0q d v) (F:=A0Y d v) (fun g i s hi hI=>by
    have e3:((i:Int)).toNat=i:=rfl;refine(if_pos (by simpa using hi)).trans ?_;rw[e3,gP ⟨oo,⟨by show s.length+1<=_; omega,by show(s.length+1)*16<=_; omega⟩,trivial⟩,gP ⟨oo,trivial⟩];rfl) (fun i s hi hI=>by unfold U7; rw[List.length_append,hI]; rfl) (fun g s _=>aE) [] rfl
   refine key.trans ?_;rw[Gj d.2.2 (d6 y175) (fun c:r7=>c.1),k2 _ _ hv hn2,Dj d.2.2 (fun c:r7=>c.1) (d6 y175)]
  have key:=lF (n:=d.1.length) hi0 (fun i (s:List ByteArray)=>((i:Int),s)) (U7 fun i=>(m6 d i).1) (fun i s=>s.length=i) (J:=q0r d) (F:=A0Z d) (fun g i s hi hI=>by
   have e3:((i:Int)).toNat=i:=rfl;refine(if_pos (by simpa using hi)).trans ?_;rw[e3,gP ⟨oo,⟨by show s.length+1<=_; omega,by show(s.length+1)*16<=_; omega⟩,trivial⟩,gP ⟨oo,trivial⟩];rfl) (fun i s hi hI=>by unfold U7; rw[List.length_append,hI]; rfl) (fun g s _=>aE) [] rfl
  refine key.trans ?_;rw[Gj d.1 (d6 y165) (fun c:m7=>c.1),k3 _ hn1,Dj d.1 (fun c:m7=>c.1) (d6 y165)];unfold Gx;rw[hia,hpa,decide_eq_true h14,decide_eq_true h30,decide_eq_true h8];cases C2 d.1.length (fun i=>(m6 d i).1) <;> cases C2 d.2.1.length (fun i=>d.2.1.getD i (d6 .str)) <;> cases C2 d.2.2.length (fun i=>(A4 d i).1) <;> rfl
 ·have e0:(!Px l||decide (14 < (d.1.length:Int))||decide (30 < (d.2.1.length:Int))||decide (8 < (d.2.2.length:Int))||!(!((List.range d.1.length).any fun i=>!N1 l.length (M3 l) d.2.1.length (m6 d i))&&!((List.range d.2.2.length).any fun i=>!N8 d.2.1.length (A4 d i))))=true:=by
   rw[<- Bool.not_eq_false];intro hc;simp only[Bool.or_eq_false_iff,Bool.not_eq_false',decide_eq_false_iff_not,ba,Bool.not_eq_true'] at hc;exact hgo ⟨hc.1.1.1.1,by omega,by omega,by omega,hc.2.1,hc.2.2⟩
  refine(if_pos e0).trans ?_;refine congrArg some ?_
  symm
  rw[<- Bool.not_eq_true];intro hc;unfold Gx at hc;simp only[ba,dq,Bool.not_eq_true'] at hc;obtain⟨⟨⟨⟨⟨⟨⟨⟨⟨c1,c2⟩,c3⟩,c4⟩,_⟩,_⟩,_⟩,c5⟩,c6⟩,_⟩:=hc;exact hgo ⟨c1,c2,c3,c4,c5,c6⟩
end Go.Proofs.YtphnknndgfgepaaGreatDoor
end
