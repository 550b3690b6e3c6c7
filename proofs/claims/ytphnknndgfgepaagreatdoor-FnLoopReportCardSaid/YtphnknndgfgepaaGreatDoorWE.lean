/- Designs: what the reference's functions say of them. -/
import Derived.Test.YtphnknndgfgepaaGreatDoorWD
import Derived.Test.YtphnknndgfgepaaGreatDoorWB
import Derived.Test.YtphnknndgfgepaaGreatDoorG77
import Derived.Test.YtphnknndgfgepaaGreatDoorWC
section
namespace Go.Proofs.YtphnknndgfgepaaGreatDoor
open Go Go.Proofs Go.Proofs.Sv Go.Proofs.Xv Go.Proofs.Xl Go.Proofs.Xd
theorem r69(l:List a0y)(d:Y31)(hl:wf (.sl y163) l)(hd:wf y31 d)(md:cnt y31 d<=1048576):u69 l d=some (b0D l d):=by
 have hi0:=hd.1.1;have hp0:=hd.2.2.1;have mi:d.1.length<=1048576:=c0w (cF md);have mn:d.2.1.length<=1048576:=c0w (cF (cS md));have mp:d.2.2.length<=1048576:=c0w (cS (cS md));show _=some (b0E _ _ _ _ _ _ _ _ _);unfold u69;rw[H0l l hl,H0k l d hl hd,vS,vS,gP ⟨rfl,fun _=>rfl,trivial⟩];by_cases hgo:h0o l=true/\d.1.length<=14/\d.2.1.length<=30/\d.2.2.length<=8/\((List.range d.1.length).any fun i=>!c0X l.length (b0t l) d.2.1.length (a0c d i))=false/\((List.range d.2.2.length).any fun i=>!d0h d.2.1.length (a0I d i))=false
 ·obtain⟨hlo,h14,h30,h8,hia,hpa⟩:=hgo;have a1:decide (14 < (d.1.length:Int))=false:=decide_eq_false (by omega);have a2:decide (30 < (d.2.1.length:Int))=false:=decide_eq_false (by omega);have a3:decide (8 < (d.2.2.length:Int))=false:=decide_eq_false (by omega);rw[hlo,a1,a2,a3,hia,hpa];refine(if_neg (by simp)).trans ?_;have hpin:∀y,inB y 0 ((l.length:Int)-1)=true->2<=b0t l y:=fun y hy=>(g0J hlo hy).1;have hall:∀i,i<d.1.length->c0X l.length (b0t l) d.2.1.length (a0c d i)=true:=fun i hi=>by
   have:=(b0B (n:=d.1.length) (c:=fun i=>!c0X l.length (b0t l) d.2.1.length (a0c d i))).1 (by rw[hia]; rfl) i hi
   rwa [Bool.not_eq_false'] at this
  have hpall:∀i,i<d.2.2.length->d0h d.2.1.length (a0I d i)=true:=fun i hi=>by
   have:=(b0B (n:=d.2.2.length) (c:=fun i=>!d0h d.2.1.length (a0I d i))).1 (by rw[hpa]; rfl) i hi
   rwa [Bool.not_eq_false'] at this
  have k10:∀v:List Int,v.length<=9223372036854775807->q0z v=some (v.all (·==1)):=fun v hv=>by
   rw[q0z];have key:=b0f (n:=v.length) hv (fun i=>v.getD i 0 != 1) (some false) (e:=some true) (F:=v0X v) (fun g i hi=>by
    refine(d0N hi hv ⟨oo,by rw[Int.toNat_natCast]; exact hi,trivial⟩).trans ?_;rfl) (fun g=>aE)
   refine key.trans ?_;rw[a0W v 0 (fun x=>x != 1),<- o0e];cases v.any fun x=>x != 1 <;> rfl
  have k7:∀v:List Int,f0h v d.2.1.length d.1.length->q0A d v=some ((fN (c0y (a0I d)) d.2.2.length v).all (·==1)):=fun v0 hlow=>by
   rw[q0A];have key:=lF (n:=d.2.2.length) hp0 (fun i (v:List Int)=>((i:Int),v)) (c0y (a0I d)) (fun i v=>i<=d.2.2.length/\f0h v d.2.1.length (d.1.length+i)) (J:=q0z) (F:=B0c d) (fun g i v hi hI=>by
    have e3:((i:Int)).toNat=i:=rfl;have j8:∀v',t0I (i:Int) g v'=g (((i+1:Nat):Int),v'):=fun v'=>gP ⟨oo,trivial⟩;have hnet:inB (a0I d i).2.2 0 ((d.2.1.length:Int)-1)=true:=by
     have:=hpall i hi;unfold d0h at this;rw[ba] at this;exact this.2
    refine(if_pos (by simpa using hi)).trans ?_;rw[e3,gP ⟨oo,trivial⟩,j8];show(if((a0I d i).2.1==1)=true then _ else _)=g (_,c0y (a0I d) i v);unfold c0y;by_cases k1:(a0I d i).2.1=1
    ·rw[if_pos (beq_iff_eq.2 k1),if_pos k1];refine(gP ⟨oo,l0y hI.2 (by omega) hnet⟩).trans ?_;rw[lE];exact j8 _
    ·rw[if_neg (by simpa using k1),if_neg k1]) (fun i v hi hI=>⟨by omega,by
    unfold c0y;split
    ·exact c0V hI.2 _
    ·exact j0K hI.2 (by omega)⟩) (fun g v _=>aE) v0 ⟨by omega,hlow⟩
   refine key.trans (k10 _ ?_);have:∀n,(fN (c0y (a0I d)) n v0).length=v0.length:=by
    intro n
    induction n with
    | zero=>rfl
    | succ n ih =>
      rw[fN];unfold c0y;split
      ·unfold h0x; rw[List.length_set]; exact ih
      ·exact ih
   rw[this,hlow.1]; omega
  have k5:lp (y0y d) ((0:Int),List.replicate d.2.1.length 0)=some ((g0n d.1.length d.2.2.length d.2.1.length (a0c d) (a0I d)).all (·==1)):=by
   have key:=lF (n:=d.1.length) hi0 (fun i (v:List Int)=>((i:Int),v)) (d0I (a0c d)) (fun i v=>i<=d.1.length/\f0h v d.2.1.length i) (J:=q0A d) (F:=y0y d) (fun g i v hi hI=>by
    have e3:((i:Int)).toNat=i:=rfl;have hx:=e0n (d:=a0a y165) hi hd.1;obtain⟨g1,g2⟩:=h0u (hall i hi) hpin;have hlen:(a0c d i).2.2.length<=9223372036854775807:=hx.2.2.1;refine(if_pos (by simpa using hi)).trans ?_;rw[e3,gP ⟨oo,trivial⟩,lE,c0P g1,gP ⟨(j0x g1 hlen).1,(j0x g1 hlen).2,l0y hI.2 (by omega) g2⟩,lE,gP ⟨oo,trivial⟩];rfl) (fun i v hi hI=>⟨by omega,c0V hI.2 _⟩) (fun g v _=>aE) (List.replicate d.2.1.length 0) ⟨by omega,f0g _ _⟩
   refine key.trans (k7 _ (h0w _ _ _))
  have hn1:wf (.sl .str) (d.1.map fun c:a0H=>c.1):=i0n hi0 fun x hx=>(hd.1.2 x hx).1;have hn2:wf (.sl .str) (d.2.2.map fun c:b0g=>c.1):=i0n hp0 fun x hx=>(hd.2.2.2 x hx).1;have k2:∀v z:List ByteArray,wf (.sl .str) v->wf (.sl .str) z->q0B d v z=some ((a0B v.length fun i=>v.getD i (a0a .str))&&(a0B z.length fun i=>z.getD i (a0a .str))&&a0B d.2.1.length (fun i=>d.2.1.getD i (a0a .str))&&(g0n d.1.length d.2.2.length d.2.1.length (a0c d) (a0I d)).all (·==1)):=fun v z hv hz=>by
   rw[q0B,E0n _ hv,E0n _ hz,E0n _ hd.2.1,vS,vS,vS,gP ⟨rfl,fun _=>rfl,fun _=>rfl,trivial⟩,gP (r0E mn (by decide)),Int.toNat_natCast,k5];cases(a0B v.length fun i=>v.getD i (a0a .str)) <;> cases(a0B z.length fun i=>z.getD i (a0a .str)) <;> cases a0B d.2.1.length (fun i=>d.2.1.getD i (a0a .str)) <;> rfl
  have k3:∀v:List ByteArray,wf (.sl .str) v->q0C d v=some ((a0B v.length fun i=>v.getD i (a0a .str))&&a0B d.2.2.length (fun i=>(a0I d i).1)&&a0B d.2.1.length (fun i=>d.2.1.getD i (a0a .str))&&(g0n d.1.length d.2.2.length d.2.1.length (a0c d) (a0I d)).all (·==1)):=fun v hv=>by
   rw[q0C];have key:=lF (n:=d.2.2.length) hp0 (fun i (s:List ByteArray)=>((i:Int),s)) (m0P fun i=>(a0I d i).1) (fun i s=>s.length=i) (J:=q0B d v) (F:=B0d d v) (fun g i s hi hI=>by
    have e3:((i:Int)).toNat=i:=rfl;refine(if_pos (by simpa using hi)).trans ?_;rw[e3,gP ⟨oo,⟨by show s.length+1<=_; omega,by show(s.length+1)*16<=_; omega⟩,trivial⟩,gP ⟨oo,trivial⟩];rfl) (fun i s hi hI=>by unfold m0P; rw[List.length_append,hI]; rfl) (fun g s _=>aE) [] rfl
   refine key.trans ?_;rw[e0a d.2.2 (a0a y175) (fun c:b0g=>c.1),k2 _ _ hv hn2,c0U d.2.2 (fun c:b0g=>c.1) (a0a y175)]
  have key:=lF (n:=d.1.length) hi0 (fun i (s:List ByteArray)=>((i:Int),s)) (m0P fun i=>(a0c d i).1) (fun i s=>s.length=i) (J:=q0C d) (F:=B0e d) (fun g i s hi hI=>by
   have e3:((i:Int)).toNat=i:=rfl;refine(if_pos (by simpa using hi)).trans ?_;rw[e3,gP ⟨oo,⟨by show s.length+1<=_; omega,by show(s.length+1)*16<=_; omega⟩,trivial⟩,gP ⟨oo,trivial⟩];rfl) (fun i s hi hI=>by unfold m0P; rw[List.length_append,hI]; rfl) (fun g s _=>aE) [] rfl
  refine key.trans ?_;rw[e0a d.1 (a0a y165) (fun c:a0H=>c.1),k3 _ hn1,c0U d.1 (fun c:a0H=>c.1) (a0a y165)];unfold b0E;rw[hia,hpa,decide_eq_true h14,decide_eq_true h30,decide_eq_true h8];cases a0B d.1.length (fun i=>(a0c d i).1) <;> cases a0B d.2.1.length (fun i=>d.2.1.getD i (a0a .str)) <;> cases a0B d.2.2.length (fun i=>(a0I d i).1) <;> rfl
 ·have e0:(!h0o l||decide (14 < (d.1.length:Int))||decide (30 < (d.2.1.length:Int))||decide (8 < (d.2.2.length:Int))||!(!((List.range d.1.length).any fun i=>!c0X l.length (b0t l) d.2.1.length (a0c d i))&&!((List.range d.2.2.length).any fun i=>!d0h d.2.1.length (a0I d i))))=true:=by
   rw[<- Bool.not_eq_false];intro hc;simp only[Bool.or_eq_false_iff,Bool.not_eq_false',decide_eq_false_iff_not,ba,Bool.not_eq_true'] at hc;exact hgo ⟨hc.1.1.1.1,by omega,by omega,by omega,hc.2.1,hc.2.2⟩
  refine(if_pos e0).trans ?_;refine congrArg some ?_
  symm
  rw[<- Bool.not_eq_true];intro hc;unfold b0E at hc;simp only[ba,dq,Bool.not_eq_true'] at hc;obtain⟨⟨⟨⟨⟨⟨⟨⟨⟨c1,c2⟩,c3⟩,c4⟩,_⟩,_⟩,_⟩,c5⟩,c6⟩,_⟩:=hc;exact hgo ⟨c1,c2,c3,c4,c5,c6⟩
abbrev d0A(w:b0I)(i:Nat):Bool:=(i==0&&(w.1.getD i 0 != -1||w.2.1.getD 0 0 != 0))||(decide (0<i)&&!inB (w.1.getD i 0) 0 ((i:Int)-1))
theorem H0f(w:b0I)(hw:wf a0j w)(hl:w.2.1.length=w.1.length):t0q w=some (!(List.range w.1.length).any (d0A w)):=by
 have h:=hw.1.1;have key:=b0f (n:=w.1.length) h (d0A w) (some false) (e:=some true) (F:=w0I w) (fun g i hi=>by
  have e3:((i:Int)).toNat=i:=rfl;have e0:((i:Int)==0)=(i==0):=by rw[Bool.eq_iff_iff,beq_iff_eq,beq_iff_eq]; omega
  have e2:decide ((0:Int) < (i:Int))=decide (0<i):=by rw[decide_eq_decide]; omega
  refine(if_pos (by simpa using hi)).trans ?_;rw[e3,e0,e2,p0A,vS,gP ⟨oo,trivial⟩,gP ⟨fun _=>oo,fun _=>oo,fun _=>rfl,trivial⟩,gP ⟨oo,trivial⟩];rfl) (fun g=>aE)
 refine key.trans ?_;cases(List.range w.1.length).any (d0A w) <;> rfl
theorem H0o(w:b0I)(n:Int)(hw:wf a0j w):A0r w n=some (e0N w n):=by
 obtain⟨⟨h1,_⟩,⟨h2,_⟩,⟨h3,_⟩,h4,_⟩:=id hw;have e:∀xs:List Int,d0p xs=some (xs.length:Int):=fun _=>rfl;unfold A0r;rw[e,e,e,e]
 repeat rw[vS]
 rw[gP ⟨rfl,trivial⟩,lE,p0A,A0v _ _ _ h2,A0v _ _ _ h3,A0v _ _ _ h4]
 repeat rw[vS]
 by_cases hgo:(inB (w.1.length:Int) 1 8&&(w.2.1.length:Int)==(w.1.length:Int)&&(w.2.2.1.length:Int)==(w.1.length:Int))=true
 ·have hg:=hgo;simp only[ba,beq_iff_eq,a0s] at hg;rw[H0f w hw (by omega),vS,gP ⟨rfl,fun _=>rfl,fun _=>rfl,fun _=>rfl,fun _=>rfl,fun _=>rfl,fun _=>rfl,fun _=>oo,fun _=>rfl,trivial⟩,lE];refine congrArg some ?_;rw[hgo];unfold e0N;rw[decide_eq_true (show 1<=w.1.length by omega),decide_eq_true (show w.1.length<=8 by omega),decide_eq_true (show w.2.1.length=w.1.length by omega),decide_eq_true (show w.2.2.1.length=w.1.length by omega)];cases(List.range w.1.length).any (d0A w) <;> cases w.2.1.all (inB · 0 1000) <;> cases w.2.2.1.all (inB · 0 500) <;> cases(w.2.2.2.length:Int)==n <;> cases w.2.2.2.all (inB · 0 ((w.1.length:Int)-1)) <;> rfl
 ·have hg:(inB (w.1.length:Int) 1 8&&(w.2.1.length:Int)==(w.1.length:Int)&&(w.2.2.1.length:Int)==(w.1.length:Int))=false:=by simpa using hgo
  rw[hg,gP ⟨rfl,fun _=>rfl,fun _=>rfl,fun hc=>by simp at hc,fun hc=>by simp at hc,fun hc=>by simp at hc,fun hc=>by simp at hc,fun hc=>by simp at hc,fun hc=>by simp at hc,trivial⟩,lE];refine congrArg some ?_;rw[hg];simp only[Bool.false_and]
  symm
  rw[<- Bool.not_eq_true];intro hc;unfold e0N at hc;simp only[ba,dq] at hc;refine hgo ?_;simp only[ba,beq_iff_eq,a0s];omega
theorem r70(w:b0I)(n:Int)(hw:wf a0j w):u70 w n=some (e0N w n):=by
 obtain⟨⟨h1,_⟩,⟨h2,_⟩,⟨h3,_⟩,h4,_⟩:=id hw;unfold u70;by_cases hgo:1<=w.1.length/\w.1.length<=8/\w.2.1.length=w.1.length/\w.2.2.1.length=w.1.length/\(w.2.2.2.length:Int)=n
 ·obtain⟨g1,g2,g3,g4,g5⟩:=hgo;have e0:(decide ((w.1.length:Int)<1)||decide (8 < (w.1.length:Int))||(w.2.1.length:Int) != (w.1.length:Int)||(w.2.2.1.length:Int) != (w.1.length:Int)||(w.2.2.2.length:Int) != n)=false:=by
   rw[<- Bool.not_eq_true]; simp; omega
  refine(if_neg (by rw[e0]; simp)).trans ?_;have k3:=b0f (n:=w.2.2.2.length) h4 (fun i=>!inB (w.2.2.2.getD i 0) 0 ((w.1.length:Int)-1)) (some false) (e:=some true) (F:=A0Z w) (fun g i hi=>d0N hi h4 ⟨oo,oo,rfl,trivial⟩) (fun g=>aE);rw[a0W w.2.2.2 0 (fun x=>!inB x 0 ((w.1.length:Int)-1))] at k3;have k1:=b0f (n:=w.1.length) h1 (fun i=>(!inB (w.2.2.1.getD i 0) 0 500||!inB (w.2.1.getD i 0) 0 1000)||d0A w i) (some false) (e:=t0H w ()) (F:=B0a w) (fun g i hi=>by
   have e3:((i:Int)).toNat=i:=rfl;have e0:((i:Int)==0)=(i==0):=by rw[Bool.eq_iff_iff,beq_iff_eq,beq_iff_eq]; omega
   have e2:decide ((0:Int) < (i:Int))=decide (0<i):=by rw[decide_eq_decide]; omega
   refine(if_pos (by simpa using hi)).trans ?_;rw[e3,e0,e2,r97,r97,r97]
   repeat rw[vS]
   rw[gP ⟨oo,rfl,fun _=>oo,fun _=>rfl,trivial⟩,gP ⟨fun _=>oo,fun _=>oo,fun _=>oo,fun _=>oo,fun _=>rfl,trivial⟩,gP ⟨oo,trivial⟩];have e4:(i==0&&(w.1.getD i 0 != -1||w.2.1.getD i 0 != 0)||decide (0<i)&&!inB (w.1.getD i 0) 0 ((i:Int)-1))=d0A w i:=by
    unfold d0A;cases i with
    | zero=>rfl
    | succ i=>rfl
   rw[e4];cases(!inB (w.2.2.1.getD i 0) 0 500||!inB (w.2.1.getD i 0) 0 1000) <;> rfl) (fun g=>aE)
  refine k1.trans ?_;rw[o0Y,o0Y];have a1:=a0W w.2.2.1 0 (fun x=>!inB x 0 500);have a2:=a0W w.2.1 0 (fun x=>!inB x 0 1000);rw[g4] at a1;rw[g3] at a2;rw[a1,a2];unfold t0H;rw[k3];unfold e0N;rw[decide_eq_true g1,decide_eq_true g2,decide_eq_true g3,decide_eq_true g4,beq_iff_eq.2 g5,<- c0e,<- c0e,<- c0e];cases(List.range w.1.length).any (d0A w) <;> cases w.2.1.any (fun x=>!inB x 0 1000) <;> cases w.2.2.1.any (fun x=>!inB x 0 500) <;> cases w.2.2.2.any (fun x=>!inB x 0 ((w.1.length:Int)-1)) <;> rfl
 ·have e0:(decide ((w.1.length:Int)<1)||decide (8 < (w.1.length:Int))||(w.2.1.length:Int) != (w.1.length:Int)||(w.2.2.1.length:Int) != (w.1.length:Int)||(w.2.2.2.length:Int) != n)=true:=by
   rw[<- Bool.not_eq_false];intro hc;simp only[Bool.or_eq_false_iff,decide_eq_false_iff_not,bne_eq_false_iff_eq] at hc;exact hgo ⟨by omega,by omega,by omega,by omega,hc.2⟩
  refine(if_pos e0).trans ?_;refine congrArg some ?_
  symm
  rw[<- Bool.not_eq_true];intro hc;unfold e0N at hc;simp only[ba,dq,beq_iff_eq] at hc;exact hgo ⟨by omega,by omega,by omega,by omega,hc.1.1.1.1.2⟩
theorem r68(d:Y31)(hd:wf y31 d)(h14:d.1.length<=14)(h8:d.2.2.length<=8)(h5:∀i,i<d.1.length->1<=(a0c d i).2.2.length/\(a0c d i).2.2.length<=5):u68 d=some (a0S d.1.length d.2.2.length (a0c d) (a0I d)):=by
 have hi0:=hd.1.1;have hp0:=hd.2.2.1;unfold u68;have k5:∀s:List c0q,s.length<=70->q0D d s=some (fN (c0d (a0I d)) d.2.2.length s):=fun s0 hs=>by
  rw[q0D];exact lF (n:=d.2.2.length) hp0 (fun i (s:List c0q)=>((i:Int),s)) (c0d (a0I d)) (fun i s=>s.length=s0.length+i) (J:=fun s=>some s) (F:=B0g d) (fun g i s hi hI=>by
   have e3:((i:Int)).toNat=i:=rfl;refine(if_pos (by simpa using hi)).trans ?_;rw[e3,gP ⟨oo,trivial⟩,lE,gP ⟨⟨by show s.length+1<=_; omega,by show(s.length+1)*32<=_; omega⟩,trivial⟩,gP ⟨oo,trivial⟩];rfl) (fun i s hi hI=>by unfold c0d; rw[List.length_append,hI]; rfl) (fun g s _=>aE) s0 rfl
 have key:=lF (n:=d.1.length) hi0 (fun i (s:List c0q)=>(s,(i:Int))) (b0a (a0c d)) (fun i s=>s.length<=5*i) (J:=q0D d) (F:=B0i d) (fun g i s hi hI=>by
  have e3:((i:Int)).toNat=i:=rfl;have hx:=(h5 i hi).2;have hn:(a0c d i).2.2.length<=9223372036854775807:=by omega
  refine(if_pos (by simpa using hi)).trans ?_;rw[e3,gP ⟨oo,trivial⟩,lE];have inner:=lF (n:=(a0c d i).2.2.length) hn (fun k (s:List c0q)=>((k:Int),s)) (c0v (a0c d i) i) (fun k z=>z.length=s.length+k) (J:=y0z (i:Int) g) (F:=B0h (i:Int) (a0c d i) g) (fun g3 k z hk hz=>by
   have e4:((k:Int)).toNat=k:=rfl;refine(if_pos (by simpa using hk)).trans ?_;rw[e4,gP ⟨oo,trivial⟩,gP ⟨oo,⟨by show z.length+1<=_; omega,by show(z.length+1)*32<=_; omega⟩,trivial⟩,lE];exact gP ⟨oo,trivial⟩) (fun k z hk hz=>by unfold c0v; rw[List.length_append,hz]; rfl) (fun g3 z _=>aE) s rfl
  refine inner.trans ?_;exact gP ⟨oo,trivial⟩) (fun i s hi hI=>by
  have hx:=(h5 i hi).2;unfold b0a;rw[c0u];have hI':s.length<=5*i:=hI;omega) (fun g s _=>aE) [] (Nat.zero_le _)
 refine key.trans (k5 _ ?_);have:=d0i (x:=a0c d) (ni:=d.1.length) (fun i hi=>(h5 i hi).2) d.1.length (Nat.le_refl _);omega
theorem D0L(d:Y31)(hd:wf y31 d)(h14:d.1.length<=14)(h8:d.2.2.length<=8)(h5:∀i,i<d.1.length->1<=(a0c d i).2.2.length/\(a0c d i).2.2.length<=5):n0K d=some (a0S d.1.length d.2.2.length (a0c d) (a0I d)):=by
 have hi0:=hd.1.1;have hp0:=hd.2.2.1;unfold n0K;have k5:∀s:List d0x,s.length<=70->i0A d s=some (fN (c0d (a0I d)) d.2.2.length s):=fun s0 hs=>by
  rw[i0A];exact lF (n:=d.2.2.length) hp0 (fun i (s:List d0x)=>((i:Int),s)) (c0d (a0I d)) (fun i s=>s.length=s0.length+i) (J:=fun s=>some s) (F:=r0e d) (fun g i s hi hI=>by
   have e3:((i:Int)).toNat=i:=rfl;refine(if_pos (by simpa using hi)).trans ?_;rw[e3,gP ⟨oo,oo,⟨by show s.length+1<=_; omega,by show(s.length+1)*32<=_; omega⟩,trivial⟩,lE];exact gP ⟨oo,trivial⟩) (fun i s hi hI=>by unfold c0d; rw[List.length_append,hI]; rfl) (fun g s _=>aE) s0 rfl
 have key:=lF (n:=d.1.length) hi0 (fun i (s:List d0x)=>((i:Int),s)) (b0a (a0c d)) (fun i s=>s.length<=5*i) (J:=i0A d) (F:=r0g d) (fun g i s hi hI=>by
  have e3:((i:Int)).toNat=i:=rfl;have hx:=(h5 i hi).2;have hn:(a0c d i).2.2.length<=9223372036854775807:=by omega
  refine(if_pos (by simpa using hi)).trans ?_;rw[e3,gP ⟨oo,trivial⟩,lE];have inner:=lF (n:=(a0c d i).2.2.length) hn (fun k (s:List d0x)=>((k:Int),s)) (c0v (a0c d i) i) (fun k z=>z.length=s.length+k) (J:=n0J (i:Int) g) (F:=r0f (i:Int) (a0c d i) g) (fun g3 k z hk hz=>by
   have e4:((k:Int)).toNat=k:=rfl;refine(if_pos (by simpa using hk)).trans ?_;rw[e4,gP ⟨oo,oo,⟨by show z.length+1<=_; omega,by show(z.length+1)*32<=_; omega⟩,trivial⟩,lE];exact gP ⟨oo,trivial⟩) (fun k z hk hz=>by unfold c0v; rw[List.length_append,hz]; rfl) (fun g3 z _=>aE) s rfl
  refine inner.trans ?_;exact gP ⟨oo,trivial⟩) (fun i s hi hI=>by
  have hx:=(h5 i hi).2;unfold b0a;rw[c0u];have hI':s.length<=5*i:=hI;omega) (fun g s _=>aE) [] (Nat.zero_le _)
 refine key.trans (k5 _ ?_);have:=d0i (x:=a0c d) (ni:=d.1.length) (fun i hi=>(h5 i hi).2) d.1.length (Nat.le_refl _);omega
abbrev a0Z(d:Y31):List a0p:=a0S d.1.length d.2.2.length (a0c d) (a0I d)
abbrev a0z(d:Y31)(i:Nat):a0p:=(a0Z d).getD i (a0a y105)
abbrev a0h(b:Y34)(i:Nat):b0I:=b.2.2.getD i (a0a a0j)
def a0e(b:Y34):Bool:=b0D b.1 b.2.1&&decide (b.2.2.length=b.2.1.2.1.length)&&!(List.range b.2.2.length).any fun i=>!e0N (a0h b i) (l0N (a0z b.2.1) i (a0Z b.2.1).length)
structure DF(l:List a0y)(d:Y31):Prop where
 lib:h0o l=true
 fac:DesignFacts l.length (b0t l) d.1.length d.2.2.length d.2.1.length (a0c d) (a0I d)
 pin:∀i,i<d.1.length->1<=(a0c d i).2.2.length/\(a0c d i).2.2.length<=5
 plc:i0R d.2.1.length (a0Z d)
 len:(a0Z d).length<=78
theorem f0r{l:List a0y}{d:Y31}(h:b0D l d=true):DF l d:=by
 obtain⟨h1,h2⟩:=l0J h;have hp:∀i,i<d.1.length->1<=(a0c d i).2.2.length/\(a0c d i).2.2.length<=5:=fun i hi=>by
  have hin:=h2.inst i hi;have g1:=(h0u hin (fun y hy=>(g0J h1 hy).1)).1;unfold c0X at hin;simp only[ba,beq_iff_eq] at hin;have:=(g0J h1 hin.1.1).2;exact⟨g1,by omega⟩
 have hn:=h2.net;refine⟨h1,h2,hp,o0c hn.2 (i0N hn.1 d.1.length (Nat.le_refl _)) d.2.2.length (Nat.le_refl _),?_⟩;have:=d0i (x:=a0c d) (ni:=d.1.length) (fun i hi=>(hp i hi).2) d.1.length (Nat.le_refl _);have h14:=h2.ni14;have h8:=h2.np8;unfold a0Z a0S;rw[d0D];omega
theorem r65(b:Y34)(hw:wf y34 b)(hm:cnt y34 b<=1048576):u65 b=some (a0e b):=by
 have hl:=hw.1;have hd:=hw.2.1;have h0:=hw.2.2.1;have mw:b.2.2.length<=1048576:=c0w (cS (cS hm));unfold u65 a0e;rw[H0p b.1 b.2.1 hl hd (cF hm) (cF (cS hm)),vS,gP ⟨rfl,trivial⟩];cases hdo:b0D b.1 b.2.1 with
 | false=>exact if_pos rfl
 | true =>
   have df:=f0r hdo;by_cases hlen:b.2.2.length=b.2.1.2.1.length
   ·have e0:((b.2.2.length:Int) != (b.2.1.2.1.length:Int))=false:=by rw[hlen]; simp
    rw[e0,decide_eq_true hlen];refine(if_neg (by simp)).trans ?_;rw[gP (r0E mw (by decide)),Int.toNat_natCast,r68 b.2.1 hd df.fac.ni14 df.fac.np8 df.pin,vS,gP ⟨rfl,trivial⟩,lE];have hpl:(a0Z b.2.1).length<=9223372036854775807:=by have:=df.len; omega
    have hin:∀i,i < (a0Z b.2.1).length->inB (a0z b.2.1 i).2.2.1 0 ((b.2.2.length:Int)-1)=true:=fun i hi=>by
     rw[hlen]; exact df.plc _ (b0d hi)
    have key:=lF (n:=(a0Z b.2.1).length) hpl (fun i (v:List Int)=>((i:Int),v)) (j0q (a0z b.2.1)) (fun i v=>i<=(a0Z b.2.1).length/\f0h v b.2.2.length i) (J:=t0L b) (F:=B0n (a0Z b.2.1) b) (fun g i v hi hI=>by
     have e3:((i:Int)).toNat=i:=rfl;have j2:∀v',t0K (i:Int) g v'=g (((i+1:Nat):Int),v'):=fun v'=>gP ⟨oo,trivial⟩;refine(if_pos (by simpa using hi)).trans ?_;rw[e3,gP ⟨oo,hi,trivial⟩,lE,j2];show(if(!(a0z b.2.1 i).2.2.2)=true then _ else _)=g (_,j0q (a0z b.2.1) i v);unfold j0q;cases hdr:(a0z b.2.1 i).2.2.2 with
     | true=>rfl
     | false =>
       refine(if_pos rfl).trans ?_;refine(gP (l0y hI.2 (by have:=df.len; omega) (hin i hi))).trans ?_;rw[lE];exact j2 _) (fun i v hi hI=>⟨by omega,by
     unfold j0q;split
     ·exact c0V hI.2 _
     ·exact j0K hI.2 (by omega)⟩) (fun g v _=>aE) (List.replicate b.2.2.length 0) ⟨by omega,f0g _ _⟩
    refine key.trans ?_;obtain⟨s1,s2⟩:=k0N (a0z b.2.1) b.2.2.length (a0Z b.2.1).length hin;generalize fN (j0q (a0z b.2.1)) (a0Z b.2.1).length (List.replicate b.2.2.length 0)=v at *
    rw[t0L];have key2:=b0f (n:=b.2.2.length) h0 (fun i=>!e0N (a0h b i) (l0N (a0z b.2.1) i (a0Z b.2.1).length)) (some false) (e:=some true) (F:=B0m v b) (fun g i hi=>by
     have e3:((i:Int)).toNat=i:=rfl;refine(if_pos (by simpa using hi)).trans ?_;rw[e3,gP ⟨oo,trivial⟩,lE,s2 i hi,H0o _ _ (e0n hi hw.2.2),vS,gP ⟨oo,by omega,rfl,trivial⟩,gP ⟨oo,trivial⟩]) (fun g=>aE)
    refine key2.trans ?_;cases(List.range b.2.2.length).any fun i=>!e0N (a0h b i) (l0N (a0z b.2.1) i (a0Z b.2.1).length) <;> rfl
   ·have e0:((b.2.2.length:Int) != (b.2.1.2.1.length:Int))=true:=by simp; omega
    rw[e0,decide_eq_false hlen];exact if_pos rfl
theorem r71(d:Y31)(hd:wf y31 d){l:List a0y}(df:DF l d)(t:Int):u71 d t=some (fN (c0J (a0z d) t) (a0Z d).length []):=by
 have hl:=df.len;unfold u71;rw[D0L d hd df.fac.ni14 df.fac.np8 df.pin,vS,gP ⟨rfl,trivial⟩,lE];exact lF (n:=(a0Z d).length) (by omega) (fun i (s:List Int)=>((i:Int),s)) (c0J (a0z d) t) (fun i s=>s.length<=i) (J:=fun s=>some s) (F:=y0x (a0Z d) t) (fun g i s hi hI=>by
  have e3:((i:Int)).toNat=i:=rfl;have j2:∀s',p0g (i:Int) g s'=g (((i+1:Nat):Int),s'):=fun v'=>gP ⟨oo,trivial⟩;refine(if_pos (by simpa using hi)).trans ?_;have hI':s.length<=i:=hI;rw[e3,gP ⟨oo,hi,fun _=>oo,fun _=>hi,trivial⟩,gP ⟨⟨by show s.length+1<=_; omega,by show(s.length+1)*8<=_; omega⟩,trivial⟩,j2,j2];show _=g (_,c0J (a0z d) t i s);unfold c0J;show(if((a0z d i).2.2.1==t&&!(a0z d i).2.2.2)=true then _ else _)=_;split <;> rfl) (fun i s hi hI=>by
  have hI':s.length<=i:=hI;unfold c0J;split
  ·rw[List.length_append]; show s.length+1<=i+1; omega
  ·omega) (fun g s _=>aE) [] (Nat.le_refl _)
theorem r23(b:Y34)(hw:wf y34 b)(hm:cnt y34 b<=1048576):u23 b=some (a0e b):=by
 have hl:=hw.1;have hd:=hw.2.1;have h0:=hw.2.2.1;unfold u23 a0e;rw[r69 b.1 b.2.1 hl hd (cF (cS hm)),vS,gP ⟨rfl,trivial⟩];cases hdo:b0D b.1 b.2.1 with
 | false=>exact if_pos rfl
 | true =>
   have df:=f0r hdo;by_cases hlen:b.2.2.length=b.2.1.2.1.length
   ·have e0:((b.2.2.length:Int) != (b.2.1.2.1.length:Int))=false:=by rw[hlen]; simp
    rw[e0,decide_eq_true hlen];refine(if_neg (by simp)).trans ?_;have key2:=b0f (n:=b.2.2.length) h0 (fun i=>!e0N (a0h b i) (l0N (a0z b.2.1) i (a0Z b.2.1).length)) (some false) (e:=some true) (F:=B0H b) (fun g i hi=>by
     have e3:((i:Int)).toNat=i:=rfl;refine(if_pos (by simpa using hi)).trans ?_;rw[e3,r71 b.2.1 hd df,vS,d0B,r70 _ _ (e0n hi hw.2.2),gP ⟨oo,rfl,rfl,trivial⟩,lE,d0B,r70 _ _ (e0n hi hw.2.2),vS,gP ⟨oo,trivial⟩]) (fun g=>aE)
    refine key2.trans ?_;cases(List.range b.2.2.length).any fun i=>!e0N (a0h b i) (l0N (a0z b.2.1) i (a0Z b.2.1).length) <;> rfl
   ·have e0:((b.2.2.length:Int) != (b.2.1.2.1.length:Int))=true:=by simp; omega
    rw[e0,decide_eq_false hlen];exact if_pos rfl
theorem a0C{b:Y34}(h:a0e b=true):b0D b.1 b.2.1=true/\b.2.2.length=b.2.1.2.1.length/\∀i,i<b.2.2.length->e0N (a0h b i) (l0N (a0z b.2.1) i (a0Z b.2.1).length)=true:=by
 unfold a0e at h;rw[ba,ba,dq] at h;refine⟨h.1.1,h.1.2,fun i hi=>?_⟩;have:=b0B.1 h.2 i hi
 rwa [Bool.not_eq_false'] at this
abbrev a0t(d:Y31)(t:Int):List Int:=fN (c0J (a0z d) t) (a0Z d).length []
def A0B(l:List a0y)(d:Y31)(p:a0p):Int:=if p.1<0 then 0 else((l.getD (a0c d p.1.toNat).2.1.toNat (a0a y163)).2.2.1.getD p.2.1.toNat (a0a y217)).2.2.1
theorem f0I{d:Y31}{i:Nat}(h:i < (a0Z d).length):a0z d i∈a0Z d:=b0d h
theorem f0j{l:List a0y}(h:h0o l=true){i:Nat}(hi:i<l.length):d0u a0J (c0A l i)=true:=by
 have h:t0t _ _ _=true:=h;unfold t0t at h;rw[ba] at h;have:=b0B.1 h.1 i hi;rw[Bool.or_eq_false_iff,Bool.not_eq_false'] at this;exact this.1
theorem j0y{l:List a0y}{d:Y31}(df:DF l d){p:a0p}(hp:p∈a0Z d):(p.1 = -1/\0<=p.2.1/\p.2.1.toNat<d.2.2.length) ∨
  (0<=p.1/\p.1.toNat<d.1.length/\0<=(a0c d p.1.toNat).2.1/\(a0c d p.1.toNat).2.1.toNat<l.length/\0<=p.2.1/\p.2.1.toNat < (l.getD (a0c d p.1.toNat).2.1.toNat (a0a y163)).2.2.1.length):=by
 rcases m0z d.1.length d.2.2.length (a0c d) (a0I d) p hp with h | ⟨h1,h2,h3,h4⟩
 ·exact .inl h
 ·have hin:=df.fac.inst p.1.toNat h2;unfold c0X at hin;simp only[ba,beq_iff_eq] at hin;have h5:=a0s.1 hin.1.1;have h6:=hin.1.2;refine .inr ⟨h1,h2,h5.1,by omega,h3,?_⟩;have h6:((a0c d p.1.toNat).2.2.length:Int)=((l.getD (a0c d p.1.toNat).2.1.toNat (a0a y163)).2.2.1.length:Int):=h6;omega
theorem y0X{l:List a0y}{d:Y31}(df:DF l d){p:a0p}(hp:p∈a0Z d):0<=A0B l d p/\A0B l d p<=500:=by
 unfold A0B;split
 ·exact⟨by decide,by decide⟩
 ·rename_i hn;rcases j0y df hp with h | ⟨h1,h2,h3,h4,h5,h6⟩
  ·omega
  ·have hc:c0z a0J _ _ _ _ _ _ _ _ _=true:=f0j df.lib h4;unfold c0z c0t at hc;simp only[ba] at hc;have:=b0B.1 hc.1.1.1.1.2.2 p.2.1.toNat h6;rw[Bool.not_eq_false'] at this;unfold q0i at this;rw[ba] at this;exact a0s.1 this.1
theorem e0Z{d:Y31}{t:Int}{k:Nat}(h:k < (a0t d t).length):0<=(a0t d t).getD k 0/\((a0t d t).getD k 0).toNat < (a0Z d).length:=by
 obtain⟨j,h1,h2,_⟩:=g0E (a0z d) t (a0Z d).length _ (b0d (d:=0) h);rw[h1];exact⟨Int.natCast_nonneg _,by simpa using h2⟩
structure NetOk(b:Y34)(i:Nat):Prop where
 df:DF b.1 b.2.1
 lt:i<b.2.2.length
 wf:l0Z (a0h b i) ((a0t b.2.1 i).length:Int)
theorem l0j{b:Y34}(h:a0e b=true){i:Nat}(hi:i<b.2.2.length):NetOk b i:=by
 obtain⟨h1,h2,h3⟩:=a0C h;refine⟨f0r h1,hi,?_⟩;rw[d0B];exact p0e (h3 i hi)
def f0d(b:Y34)(i k:Nat):Int:=(a0h b i).2.2.2.getD k 0
def s0V(b:Y34)(i k:Nat):Int:=A0B b.1 b.2.1 (a0z b.2.1 ((a0t b.2.1 i).getD k 0).toNat)
def p0F(b:Y34)(i k:Nat):Int:=(a0h b i).1.getD k 0
def u0w(b:Y34)(i k:Nat):Int:=(a0h b i).2.1.getD k 0
def a0L(b:Y34)(i:Nat):List Int:=C0p (a0h b i).2.2.1 (a0h b i).1.length (a0t b.2.1 i).length (f0d b i) (s0V b i) (p0F b i)
theorem NetOk.sn{b:Y34}{i:Nat}(h:NetOk b i):(a0h b i).2.2.2.length=(a0t b.2.1 i).length:=by have:=h.wf.snk; omega
theorem NetOk.s78{b:Y34}{i:Nat}(h:NetOk b i):(a0t b.2.1 i).length<=78:=by
 have h1:=h.df.len;have h2:=s0O (a0z b.2.1) i (a0Z b.2.1).length;have h3:=d0B (a0z b.2.1) i (a0Z b.2.1).length;have h4:((a0t b.2.1 i).length:Int)=l0N (a0z b.2.1) i (a0Z b.2.1).length:=h3;omega
theorem NetOk.capIn{b:Y34}{i:Nat}(h:NetOk b i){k:Nat}(hk:k < (a0t b.2.1 i).length):0<=f0d b i k/\(f0d b i k).toNat < (a0h b i).1.length/\0<=s0V b i k/\s0V b i k<=500:=by
 have h1:=h.wf.snkIn k (by rw[h.sn]; exact hk);have h2:=y0X h.df (f0I (e0Z hk).2);exact⟨h1.1,h1.2,h2.1,h2.2⟩
theorem NetOk.low{b:Y34}{i:Nat}(h:NetOk b i):∀m,m<=(a0t b.2.1 i).length->Low (fN (y0k (f0d b i) (s0V b i)) m (a0h b i).2.2.1) (a0h b i).1.length (500*((a0h b i).1.length:Int)+500*(m:Int)):=fun m hm=>o0Q (z0o h.wf.cap h.wf.capOk) m (fun k hk=>h.capIn (by omega))
theorem NetOk.pull{b:Y34}{i:Nat}(h:NetOk b i):∀k,k<=(a0h b i).1.length-1->D0c (fN (f0H (p0F b i) (a0h b i).1.length) k (fN (y0k (f0d b i) (s0V b i)) (a0t b.2.1 i).length (a0h b i).2.2.1)) (a0h b i).1.length k 43000:=by
 have h1:=h.low _ (Nat.le_refl _);have h2:=h.s78;have h3:=h.wf.n8;have h4:Low (fN (y0k (f0d b i) (s0V b i)) (a0t b.2.1 i).length (a0h b i).2.2.1) (a0h b i).1.length 43000:=⟨h1.len,h1.pos,by have:=h1.sum; omega⟩;exact k0U h4 (by decide) (fun k h0 hk=>h.wf.par k h0 hk)
theorem NetOk.loads{b:Y34}{i:Nat}(h:NetOk b i):(a0L b i).length=(a0h b i).1.length/\∀j,0<=(a0L b i).getD j 0/\(a0L b i).getD j 0<=43000:=by
 have:=h.pull _ (Nat.le_refl _);exact⟨this.len,fun j=>⟨this.pos j,this.bd j⟩⟩
abbrev b0H(b:Y34)(i:Nat):a0y:=b.1.getD (a0c b.2.1 i).2.1.toNat (a0a y163)
theorem b0K{b:Y34}(df:DF b.1 b.2.1){i:Nat}(hi:i<b.2.1.1.length):ix (a0c b.2.1 i).2.1 b.1.length/\d0u a0J (b0H b i)=true/\(a0c b.2.1 i).2.2.length=(b0H b i).2.2.1.length:=by
 have:=df.fac.inst i hi;unfold c0X at this;rw[ba,ba,beq_iff_eq] at this;have h1:=a0s.1 this.1.1;have h2:=this.1.2;have h3:((a0c b.2.1 i).2.2.length:Int)=((b0H b i).2.2.1.length:Int):=h2;exact⟨⟨h1.1,by omega⟩,f0j df.lib (by omega),by omega⟩
theorem c0x{c:a0y}(h:d0u a0J c=true):2<=c.2.2.1.length/\c.2.2.1.length<=5/\c.2.2.2.1.length<=8/\∀j,j<c.2.2.2.1.length->0<=(a0d c j).2.1/\(a0d c j).2.1 < (c.2.2.1.length:Int)-1/\0<=(a0d c j).2.2.1/\(a0d c j).2.2.1 < (c.2.2.1.length:Int):=by
 have h:c0z a0J _ _ _ _ _ _ _ _ _=true:=h;unfold c0z n0f at h;simp only[ba,dq] at h;have hp:=c0T h.1.1.1.1.2;refine⟨hp.1,hp.2.1,h.1.1.1.2.1,fun j hj=>?_⟩;have:=b0B.1 h.1.1.1.2.2 j hj;rw[Bool.or_eq_false_iff,Bool.not_eq_false'] at this;have ha:=this.1;unfold a0J at ha;rw[ba,ba] at ha;have h1:=a0s.1 ha.1.1;have h2:=a0s.1 ha.1.2;omega
theorem H0c(l:List a0y)(d:Y31)(df:DF l d){p:a0p}(hp:p∈a0Z d):y0L d l p=some (A0B l d p):=by
 unfold y0L A0B;rcases j0y df hp with h | ⟨h1,h2,h3,h4,h5,h6⟩
 ·rw[if_pos (by rw[h.1]; decide),if_pos (by omega)]
 ·refine(if_neg (by simp; omega)).trans ?_;rw[if_neg (by omega),gP ⟨oo,⟨h3,by show(a0c d p.1.toNat).2.1<_; omega⟩,⟨h5,by show p.2.1 < (((l.getD (a0c d p.1.toNat).2.1.toNat (a0a y163)).2.2.1.length:Nat):Int); omega⟩,trivial⟩];rfl
theorem H0d(d:Y31)(hd:wf y31 d){l:List a0y}(df:DF l d)(t:Int):B0O d t=some (a0t d t):=by
 have hl:=df.len;unfold B0O;rw[r68 d hd df.fac.ni14 df.fac.np8 df.pin,vS,gP ⟨rfl,trivial⟩,lE];exact lF (n:=(a0Z d).length) (by omega) (fun i (s:List Int)=>(s,(i:Int))) (c0J (a0z d) t) (fun i s=>s.length<=i) (J:=fun s=>some s) (F:=w0G t (a0Z d)) (fun g i s hi hI=>by
  have e3:((i:Int)).toNat=i:=rfl;have j2:∀s',n0y (i:Int) g s'=g (s',((i+1:Nat):Int)):=fun v'=>gP ⟨oo,trivial⟩;refine(if_pos (by simpa using hi)).trans ?_;have hI':s.length<=i:=hI;rw[e3,gP ⟨oo,hi,trivial⟩,lE,gP ⟨⟨by show s.length+1<=_; omega,by show(s.length+1)*8<=_; omega⟩,trivial⟩,j2,j2];show _=g (c0J (a0z d) t i s,_);unfold c0J;show(if((a0z d i).2.2.1==t&&!(a0z d i).2.2.2)=true then _ else _)=_;split <;> rfl) (fun i s hi hI=>by
  have hI':s.length<=i:=hI;unfold c0J;split
  ·rw[List.length_append]; show s.length+1<=i+1; omega
  ·omega) (fun g s _=>aE) [] (Nat.le_refl _)
theorem F0y(xs:List Int)(h:xs.length<=1048576):x0b xs=some xs:=gP ⟨oo,trivial⟩
theorem F0z(b:Y34)(hw:wf y34 b){i:Nat}(h:NetOk b i):r0a b (i:Int)=some (a0L b i):=by
 have hd:=hw.2.1;have df:=h.df;have hb:=hw.2.2.1;have hi:=h.lt;have n1:=h.wf.n1;have n8:=h.wf.n8;have hsn:=h.sn;have hs:=h.s78;have hcl:=h.wf.cap;unfold r0a;have e3:((i:Int)).toNat=i:=rfl;rw[gP ⟨oo,trivial⟩,lE,e3,F0y _ (by show(a0h b i).2.2.1.length<=_; omega),vS,gP ⟨rfl,trivial⟩,lE,r68 b.2.1 hd df.fac.ni14 df.fac.np8 df.pin,vS,gP ⟨rfl,trivial⟩,lE,H0d b.2.1 hd df,vS,gP ⟨rfl,trivial⟩,lE];have key:=lF (n:=(a0t b.2.1 i).length) (by omega) (fun k (s:List Int)=>((k:Int),s)) (y0k (f0d b i) (s0V b i)) (fun k v=>Low v (a0h b i).1.length (500*((a0h b i).1.length:Int)+500*(k:Int))) (J:=n0G (a0h b i)) (F:=x0q b (a0Z b.2.1) (a0t b.2.1 i) (a0h b i)) (fun g k v hk hI=>by
  have e4:((k:Int)).toNat=k:=rfl;obtain⟨c1,c2,c3,c4⟩:=h.capIn hk;obtain⟨c5,c6⟩:=e0Z hk;have hv:=hI.bd (by omega) (f0d b i k).toNat;have c1':0<=(a0h b i).2.2.2.getD k 0:=c1;have c2':((a0h b i).2.2.2.getD k 0).toNat<v.length:=by rw[hI.len]; exact c2
  refine(if_pos (by simpa using hk)).trans ?_;rw[e4,gP ⟨oo,hk,trivial⟩,H0c b.1 b.2.1 df (f0I c6),vS];rw[gP ⟨oo,⟨c1',by omega⟩,c2',⟨c5,by omega⟩,c6,rfl,⟨by show _<=v.getD (f0d b i k).toNat 0+s0V b i k; omega,by show v.getD (f0d b i k).toNat 0+s0V b i k<=_; omega⟩,⟨c1',by omega⟩,c2',trivial⟩,lE];exact gP ⟨oo,trivial⟩) (fun k v hk hI=>by
  obtain⟨c1,c2,c3,c4⟩:=h.capIn hk;have:=hI.add c2 c3;refine⟨this.len,this.pos,Int.le_trans this.sum ?_⟩;rw[Int.natCast_add,Int.mul_add];simp only[Int.natCast_one];omega) (fun g s _=>aE) (a0h b i).2.2.1 (by
  have:=h.low 0 (Nat.zero_le _);exact this)
 refine key.trans ?_;have hl0:=(h.low _ (Nat.le_refl _)).len;have hp0:=h.pull 0 (Nat.zero_le _);have hL:a0L b i=fN (f0H (p0F b i) (a0h b i).1.length) ((a0h b i).1.length-1) (fN (y0k (f0d b i) (s0V b i)) (a0t b.2.1 i).length (a0h b i).2.2.1):=rfl;rw[hL];have hpl:=h.pull;generalize fN (y0k (f0d b i) (s0V b i)) (a0t b.2.1 i).length (a0h b i).2.2.1=v0 at hl0 hp0 hpl ⊢;rw[n0G,hl0,gP ⟨oo,trivial⟩];have e5:(((a0h b i).1.length:Int)-1,v0)=(fun(k:Nat) (s:List Int)=>(((a0h b i).1.length:Int)-1-(k:Int),s)) 0 v0:=by simp
 rw[e5];exact lF (n:=(a0h b i).1.length-1) (by omega) (fun(k:Nat) (s:List Int)=>(((a0h b i).1.length:Int)-1-(k:Int),s)) (f0H (p0F b i) (a0h b i).1.length) (fun k v=>D0c v (a0h b i).1.length k 43000) (J:=fun s=>some s) (F:=i0z (a0h b i)) (fun g k v hk hI=>by
  have hp:=h.wf.par ((a0h b i).1.length-1-k) (by omega) (by omega);have hp':0<=(a0h b i).1.getD ((a0h b i).1.length-1-k) 0/\((a0h b i).1.getD ((a0h b i).1.length-1-k) 0).toNat < (a0h b i).1.length-1-k:=hp;have hlen:=hI.len;have e6:((a0h b i).1.length:Int)-1-(k:Int)=(((a0h b i).1.length-1-k:Nat):Int):=by omega
  have e7:((((a0h b i).1.length-1-k:Nat):Int)).toNat=(a0h b i).1.length-1-k:=rfl;have b1:=hI.pos ((a0h b i).1.getD ((a0h b i).1.length-1-k) 0).toNat;have b2:=hI.bd ((a0h b i).1.getD ((a0h b i).1.length-1-k) 0).toNat;have b3:=hI.pos ((a0h b i).1.length-1-k);have b4:=hI.bd ((a0h b i).1.length-1-k);have e8:((a0h b i).1.length:Int)-1-((k+1:Nat):Int)=(((a0h b i).1.length-1-k:Nat):Int)-1:=by omega
  show i0z (a0h b i) g (((a0h b i).1.length:Int)-1-(k:Int),v)=g (((a0h b i).1.length:Int)-1-((k+1:Nat):Int),f0H (p0F b i) (a0h b i).1.length k v);rw[e8,e6];refine(if_pos (decide_eq_true (by omega))).trans ?_;rw[e7,gP ⟨oo,⟨hp'.1,by omega⟩,by omega,oo,by omega,oo,⟨hp'.1,by omega⟩,by omega,trivial⟩,lE];exact gP ⟨oo,trivial⟩) (fun k v hk hI=>k0T hI hk (h.wf.par _ (by omega) (by omega))) (fun g s _=>by
  have e9:((a0h b i).1.length:Int)-1-(((a0h b i).1.length-1:Nat):Int)=0:=by omega
  show i0z (a0h b i) g (((a0h b i).1.length:Int)-1-(((a0h b i).1.length-1:Nat):Int),s)=some s;rw[e9];have:i0z (a0h b i) g (0,s)=q0Z s:=by
   rw[i0z];exact if_neg (by decide)
  exact this.trans rfl) v0 hp0
def e0z(b:Y34)(i:Nat):List Int:=z0H (a0h b i).1.length (p0F b i) (u0w b i) (fun k=>(a0L b i).getD k 0)
def d0J(b:Y34)(i:Nat):List Int:=fN (exF (e0z b i) (f0d b i)) (a0t b.2.1 i).length []
theorem NetOk.del{b:Y34}{i:Nat}(h:NetOk b i):∀k,k<=(a0h b i).1.length-1->(fN (m0f (p0F b i) (u0w b i) (fun k=>(a0L b i).getD k 0)) k [0]).length=k+1/\∀j,0<=(fN (m0f (p0F b i) (u0w b i) (fun k=>(a0L b i).getD k 0)) k [0]).getD j 0/\(fN (m0f (p0F b i) (u0w b i) (fun k=>(a0L b i).getD k 0)) k [0]).getD j 0<=1000*43000*(k:Int) :=
 s0K (n:=(a0h b i).1.length) (fun k hk=>h.wf.resIn k hk) (fun k _=>h.loads.2 k) (by decide)
theorem NetOk.delays{b:Y34}{i:Nat}(h:NetOk b i):(e0z b i).length=(a0h b i).1.length/\∀j,0<=(e0z b i).getD j 0/\(e0z b i).getD j 0<=301000000:=by
 have h1:=h.del _ (Nat.le_refl _);have n1:=h.wf.n1;have n8:=h.wf.n8;refine⟨h1.1.trans (by omega),fun j=>⟨(h1.2 j).1,Int.le_trans (h1.2 j).2 (by omega)⟩⟩
theorem H0b(b:Y34)(hw:wf y34 b){i:Nat}(h:NetOk b i):B0N b (i:Int)=some (e0z b i):=by
 have hi:=h.lt;have hb:=hw.2.2.1;have n1:=h.wf.n1;have n8:=h.wf.n8;have hr:=h.wf.res;obtain⟨ll,lb⟩:=h.loads;have e3:((i:Int)).toNat=i:=rfl;unfold B0N;rw[F0z b hw h,vS,gP ⟨oo,rfl,trivial⟩,lE,e3];show gd ((0<=((a0L b i).length:Int)/\((a0L b i).length:Int)=((a0L b i).length:Int)/\((a0L b i).length:Int).toNat*8<=281474976710656/\((a0L b i).length:Int)<=9223372036854775807)/\True) (lp (k0w (a0h b i) (a0L b i)) (1,List.replicate ((a0L b i).length:Int).toNat 0))=_;rw[ll,gP ⟨⟨by omega,rfl,by omega,by omega⟩,trivial⟩];have e5:((1:Int),List.replicate ((a0h b i).1.length:Int).toNat (0:Int))=(fun(k:Nat) (s:List Int)=>(((k+1:Nat):Int),s++List.replicate ((a0h b i).1.length-1-k) 0)) 0 [0]:=by
  show((1:Int),List.replicate (a0h b i).1.length (0:Int))=_;have:(a0h b i).1.length=((a0h b i).1.length-1)+1:=by omega
  rw[this,List.replicate_succ];rfl
 rw[e5];refine(lF (n:=(a0h b i).1.length-1) (by omega) (fun(k:Nat) (s:List Int)=>(((k+1:Nat):Int),s++List.replicate ((a0h b i).1.length-1-k) 0)) (m0f (p0F b i) (u0w b i) (fun k=>(a0L b i).getD k 0)) (fun k s=>s.length=k+1/\∀j,0<=s.getD j 0/\s.getD j 0<=1000*43000*(k:Int)) (J:=fun s=>some s) (F:=k0w (a0h b i) (a0L b i)) (fun g k s hk hI=>?_) (fun k s hk hI=>?_) (fun g s hI=>?_) [0] ?_)
 ·obtain⟨hl,hs⟩:=hI;have hp:=h.wf.par (k+1) (by omega) (by omega);have hfl:(s++List.replicate ((a0h b i).1.length-1-k) (0:Int)).length=(a0h b i).1.length:=by rw[List.length_append,List.length_replicate]; omega
  have e4:(((k+1:Nat):Int)).toNat=k+1:=rfl;have hg:=v0E (n:=(a0h b i).1.length) hl hp.2;have r1:=h.wf.resIn (k+1) (by omega);have l1:=lb (k+1);have hm:=r0V r1.1 r1.2 l1.1 l1.2;have hs1:=hs ((a0h b i).1.getD (k+1) 0).toNat;show k0w (a0h b i) (a0L b i) g (((k+1:Nat):Int),s++List.replicate ((a0h b i).1.length-1-k) 0)=g (((k+1+1:Nat):Int),m0f (p0F b i) (u0w b i) (fun k=>(a0L b i).getD k 0) k s++List.replicate ((a0h b i).1.length-1-(k+1)) 0);have e6:m0f (p0F b i) (u0w b i) (fun k=>(a0L b i).getD k 0) k s++List.replicate ((a0h b i).1.length-1-(k+1)) 0=(s++List.replicate ((a0h b i).1.length-1-k) 0).set (k+1) (s.getD ((a0h b i).1.getD (k+1) 0).toNat 0+(a0h b i).2.1.getD (k+1) 0*(a0L b i).getD (k+1) 0):=(v0D hl (by omega)).symm;rw[e6,<- hg];generalize s++List.replicate ((a0h b i).1.length-1-k) (0:Int)=v at hfl hg ⊢;refine(if_pos (by simp; omega)).trans ?_;rw[e4,gP ⟨oo,⟨hp.1,by omega⟩,by omega,oo,oo,by omega,oo,oo,oo,by omega,trivial⟩,lE];exact gP ⟨oo,trivial⟩
 ·obtain⟨hl,hs⟩:=hI;have r1:=h.wf.resIn (k+1) (by omega);have l1:=lb (k+1);have hm:=r0V r1.1 r1.2 l1.1 l1.2;have hs1:=hs (p0F b i (k+1)).toNat;unfold m0f;refine⟨by rw[List.length_append,hl]; rfl,fun j=>?_⟩;have hm:0<=u0w b i (k+1)*(a0L b i).getD (k+1) 0/\u0w b i (k+1)*(a0L b i).getD (k+1) 0<=1000*43000:=hm;rcases Nat.lt_or_ge j s.length with hj | hj
  ·have:=hs j;rw[b0Z hj]; omega
  ·rw[c0Y hj];cases hjs:j-s.length with
   | zero=>simp only[List.getD_cons_zero]; omega
   | succ q=>simp only[List.getD_cons_succ,List.getD_nil]; omega
 ·have e9:(a0h b i).1.length-1-((a0h b i).1.length-1)=0:=by omega
  show k0w (a0h b i) (a0L b i) g ((((a0h b i).1.length-1+1:Nat):Int),s++List.replicate ((a0h b i).1.length-1-((a0h b i).1.length-1)) 0)=some s;rw[e9,List.replicate_zero,List.append_nil,<- hI.1];exact aE
 ·exact h.del 0 (Nat.zero_le _)
theorem H0m(b:Y34)(hw:wf y34 b){i:Nat}(h:NetOk b i):x0p b (i:Int)=some (d0J b i):=by
 have hi:=h.lt;have hb:=hw.2.2.1;have hsn:=h.sn;have hs:=h.s78;obtain⟨dl,db⟩:=h.delays;have e3:((i:Int)).toNat=i:=rfl;unfold x0p;rw[H0b b hw h,vS,gP ⟨rfl,trivial⟩,lE,gP ⟨oo,trivial⟩,lE,e3];unfold d0J;rw[<- hsn];exact lF (n:=(a0h b i).2.2.2.length) (by omega) (fun(k:Nat) (s:List Int)=>(s,(k:Int))) (exF (e0z b i) (f0d b i)) (fun k s=>s.length=k) (J:=fun s=>some s) (F:=x0n (e0z b i) (a0h b i)) (fun g k s hk hI=>by
  have e4:((k:Int)).toNat=k:=rfl;have h1:=h.wf.snkIn k hk;have hI:s.length=k:=hI;refine(if_pos (by simpa using hk)).trans ?_;rw[e4,gP ⟨oo,trivial⟩,gP ⟨⟨h1.1,by omega⟩,by omega,⟨by show s.length+1<=_; omega,by show(s.length+1)*8<=_; omega⟩,trivial⟩,lE];exact gP ⟨oo,trivial⟩) (fun k s hk hI=>by
  have hI:s.length=k:=hI;unfold exF;rw[List.length_append,hI]; rfl) (fun g s _=>aE) [] rfl
theorem H0e(a:c0f):B0P a=some (b0o a.1 a.2.2.2.1):=by
 unfold B0P b0o;split
 ·rfl
 split
 ·rfl
 split
 ·rfl
 split
 ·rfl
 split
 ·rfl
 ·rfl
theorem H0n(b:Y34)(df:DF b.1 b.2.1){i:Nat}(hi:i<b.2.1.1.length)(f:Int)(h0:0<=f)(h1:f<=1000):x0s b (a0c b.2.1 i) f=some (a0P f (a0d (b0H b i)) (b0H b i).2.2.2.1.length):=by
 obtain⟨x1,x2,x3⟩:=b0K df hi;obtain⟨c1,c2,c3,c4⟩:=c0x x2;unfold x0s;rw[gP ⟨x1,trivial⟩,lE];show lp (r0c f (b0H b i)) ([],0)=_;generalize b0H b i=c at c1 c2 c3 c4;refine lF (n:=c.2.2.2.1.length) (by omega) (fun(j:Nat) (s:List a0D)=>(s,(j:Int))) (d0w f (a0d c)) (fun j s=>s.length<=4*j) (J:=fun s=>some s) (F:=r0c f c) (fun g j s hj hI=>?_) (fun j s hj hI=>?_) (fun g s _=>aE) [] (Nat.le_refl _)
 ·have e4:((j:Int)).toNat=j:=rfl;obtain⟨a1,a2,a3,a4⟩:=c4 j hj;have hI:s.length<=4*j:=hI;refine(if_pos (by simpa using hj)).trans ?_;rw[e4,gP ⟨oo,trivial⟩,lE,H0e,vS,gP ⟨rfl,trivial⟩,lE];show lp (r0b f (a0d c j) (j:Int) (b0o (a0d c j).1 (a0d c j).2.2.2.1) g) (0,s)=g (d0w f (a0d c) j s,_);obtain⟨t1,t2⟩:=g0S (a0d c j).1 (a0d c j).2.2.2.1;have ec:d0w f (a0d c) j s=fN (c0b f (a0d c j).2.1 (a0d c j).2.2.1 (j:Int) (b0o (a0d c j).1 (a0d c j).2.2.2.1)) (b0o (a0d c j).1 (a0d c j).2.2.2.1).length s:=rfl;rw[ec];generalize b0o (a0d c j).1 (a0d c j).2.2.2.1=tr at t1 t2;generalize a0d c j=a at a1 a2 a3 a4;refine(lF (n:=tr.length) (by omega) (fun(k:Nat) (s:List a0D)=>((k:Int),s)) (c0b f a.2.1 a.2.2.1 (j:Int) tr) (fun k z=>z.length=s.length+k) (J:=fun z=>r0d (j:Int) g z) (F:=r0b f a (j:Int) tr g) (fun g3 k z hk hz=>?_) (fun k z hk hz=>?_) (fun g3 z _=>aE) s rfl).trans ?_
  ·have e5:((k:Int)).toNat=k:=rfl;have ht:=t2 _ (b0d (d:=((0,0):Int×Int)) hk);have hz:z.length=s.length+k:=hz;refine(if_pos (by simpa using hk)).trans ?_;rw[e5,gP ⟨oo,hk,trivial⟩,lE];show gd _ _=_;rw[gP ⟨oo,oo,oo,⟨by show _<=2*(f+a.2.1)+(tr.getD k (0,0)).1; omega,by show 2*(f+a.2.1)+(tr.getD k (0,0)).1<=_; omega⟩,oo,oo,oo,⟨by show _<=2*(f+a.2.2.1)+(tr.getD k (0,0)).2; omega,by show 2*(f+a.2.2.1)+(tr.getD k (0,0)).2<=_; omega⟩,⟨by show z.length+1<=_; omega,by show(z.length+1)*32<=_; omega⟩,trivial⟩,lE];exact gP ⟨oo,trivial⟩
  ·have hz:z.length=s.length+k:=hz;unfold c0b;rw[List.length_append,hz]; rfl
  ·exact gP ⟨oo,trivial⟩
 ·have hI:s.length<=4*j:=hI;have:=h0K f (a0d c) j s;show _<=4*(j+1);omega
end Go.Proofs.YtphnknndgfgepaaGreatDoor
end
