/- Designs: what the reference's functions say of them. -/
import Derived.Test.YtphnknndgfgepaaGreatDoorWD
import Derived.Test.YtphnknndgfgepaaGreatDoorWB
import Derived.Test.YtphnknndgfgepaaGreatDoorG78
import Derived.Test.YtphnknndgfgepaaGreatDoorWC
section
namespace Go.Proofs.YtphnknndgfgepaaGreatDoor
open Go Go.Proofs Go.Proofs.Sv Go.Proofs.Xv Go.Proofs.Xl Go.Proofs.Xd
theorem r69(l:List a0A)(d:Y31)(hl:wf (.sl y163) l)(hd:wf y31 d)(md:cnt y31 d<=1048576):u69 l d=some (d0o l d):=by
 have hi0:=hd.1.1;have hp0:=hd.2.2.1;have mi:d.1.length<=1048576:=c0t (cF md);have mn:d.2.1.length<=1048576:=c0t (cF (cS md));have mp:d.2.2.length<=1048576:=c0t (cS (cS md));show _=some (c0I _ _ _ _ _ _ _ _ _);unfold u69;rw[H0y l hl,H0x l d hl hd,vS,vS,gP ⟨rfl,fun _=>rfl,trivial⟩];by_cases hgo:j0M l=true/\d.1.length<=14/\d.2.1.length<=30/\d.2.2.length<=8/\((List.range d.1.length).any fun i=>!c0Y l.length (b0v l) d.2.1.length (a0d d i))=false/\((List.range d.2.2.length).any fun i=>!d0i d.2.1.length (a0I d i))=false
 ·obtain⟨hlo,h14,h30,h8,hia,hpa⟩:=hgo;have a1:decide (14 < (d.1.length:Int))=false:=decide_eq_false (by omega);have a2:decide (30 < (d.2.1.length:Int))=false:=decide_eq_false (by omega);have a3:decide (8 < (d.2.2.length:Int))=false:=decide_eq_false (by omega);rw[hlo,a1,a2,a3,hia,hpa];refine(if_neg (by simp)).trans ?_;have hpin:∀y,inB y 0 ((l.length:Int)-1)=true->2<=b0v l y:=fun y hy=>(g0K hlo hy).1;have hall:∀i,i<d.1.length->c0Y l.length (b0v l) d.2.1.length (a0d d i)=true:=fun i hi=>by
   have:=(b0C (n:=d.1.length) (c:=fun i=>!c0Y l.length (b0v l) d.2.1.length (a0d d i))).1 (by rw[hia]; rfl) i hi
   rwa [Bool.not_eq_false'] at this
  have hpall:∀i,i<d.2.2.length->d0i d.2.1.length (a0I d i)=true:=fun i hi=>by
   have:=(b0C (n:=d.2.2.length) (c:=fun i=>!d0i d.2.1.length (a0I d i))).1 (by rw[hpa]; rfl) i hi
   rwa [Bool.not_eq_false'] at this
  have k10:∀v:List Int,v.length<=9223372036854775807->q0A v=some (v.all (·==1)):=fun v hv=>by
   rw[q0A];have key:=b0e (n:=v.length) hv (fun i=>v.getD i 0 != 1) (some false) (e:=some true) (F:=v0Y v) (fun g i hi=>by
    refine(d0T hi hv ⟨oo,by rw[Int.toNat_natCast]; exact hi,trivial⟩).trans ?_;rfl) (fun g=>aE)
   refine key.trans ?_;rw[a0X v 0 (fun x=>x != 1),<- o0d];cases v.any fun x=>x != 1 <;> rfl
  have k7:∀v:List Int,f0k v d.2.1.length d.1.length->q0B d v=some ((fN (c0x (a0I d)) d.2.2.length v).all (·==1)):=fun v0 hlow=>by
   rw[q0B];have key:=lF (n:=d.2.2.length) hp0 (fun i (v:List Int)=>((i:Int),v)) (c0x (a0I d)) (fun i v=>i<=d.2.2.length/\f0k v d.2.1.length (d.1.length+i)) (J:=q0A) (F:=B0h d) (fun g i v hi hI=>by
    have e3:((i:Int)).toNat=i:=rfl;have j8:∀v',t0J (i:Int) g v'=g (((i+1:Nat):Int),v'):=fun v'=>gP ⟨oo,trivial⟩;have hnet:inB (a0I d i).2.2 0 ((d.2.1.length:Int)-1)=true:=by
     have:=hpall i hi;unfold d0i at this;rw[ba] at this;exact this.2
    refine(if_pos (by simpa using hi)).trans ?_;rw[e3,gP ⟨oo,trivial⟩,j8];show(if((a0I d i).2.1==1)=true then _ else _)=g (_,c0x (a0I d) i v);unfold c0x;by_cases k1:(a0I d i).2.1=1
    ·rw[if_pos (beq_iff_eq.2 k1),if_pos k1];refine(gP ⟨oo,l0z hI.2 (by omega) hnet⟩).trans ?_;rw[lE];exact j8 _
    ·rw[if_neg (by simpa using k1),if_neg k1]) (fun i v hi hI=>⟨by omega,by
    unfold c0x;split
    ·exact c0W hI.2 _
    ·exact j0K hI.2 (by omega)⟩) (fun g v _=>aE) v0 ⟨by omega,hlow⟩
   refine key.trans (k10 _ ?_);have:∀n,(fN (c0x (a0I d)) n v0).length=v0.length:=by
    intro n
    induction n with
    | zero=>rfl
    | succ n ih =>
      rw[fN];unfold c0x;split
      ·unfold h0w; rw[List.length_set]; exact ih
      ·exact ih
   rw[this,hlow.1]; omega
  have k5:lp (y0z d) ((0:Int),List.replicate d.2.1.length 0)=some ((g0n d.1.length d.2.2.length d.2.1.length (a0d d) (a0I d)).all (·==1)):=by
   have key:=lF (n:=d.1.length) hi0 (fun i (v:List Int)=>((i:Int),v)) (d0N (a0d d)) (fun i v=>i<=d.1.length/\f0k v d.2.1.length i) (J:=q0B d) (F:=y0z d) (fun g i v hi hI=>by
    have e3:((i:Int)).toNat=i:=rfl;have hx:=e0r (d:=a0a y165) hi hd.1;obtain⟨g1,g2⟩:=h0t (hall i hi) hpin;have hlen:(a0d d i).2.2.length<=9223372036854775807:=hx.2.2.1;refine(if_pos (by simpa using hi)).trans ?_;rw[e3,gP ⟨oo,trivial⟩,lE,c0P g1,gP ⟨(j0z g1 hlen).1,(j0z g1 hlen).2,l0z hI.2 (by omega) g2⟩,lE,gP ⟨oo,trivial⟩];rfl) (fun i v hi hI=>⟨by omega,c0W hI.2 _⟩) (fun g v _=>aE) (List.replicate d.2.1.length 0) ⟨by omega,f0j _ _⟩
   refine key.trans (k7 _ (h0v _ _ _))
  have hn1:wf (.sl .str) (d.1.map fun c:a0G=>c.1):=i0n hi0 fun x hx=>(hd.1.2 x hx).1;have hn2:wf (.sl .str) (d.2.2.map fun c:b0h=>c.1):=i0n hp0 fun x hx=>(hd.2.2.2 x hx).1;have k2:∀v z:List ByteArray,wf (.sl .str) v->wf (.sl .str) z->q0C d v z=some ((a0B v.length fun i=>v.getD i (a0a .str))&&(a0B z.length fun i=>z.getD i (a0a .str))&&a0B d.2.1.length (fun i=>d.2.1.getD i (a0a .str))&&(g0n d.1.length d.2.2.length d.2.1.length (a0d d) (a0I d)).all (·==1)):=fun v z hv hz=>by
   rw[q0C,E0t _ hv,E0t _ hz,E0t _ hd.2.1,vS,vS,vS,gP ⟨rfl,fun _=>rfl,fun _=>rfl,trivial⟩,gP (r0E mn (by decide)),Int.toNat_natCast,k5];cases(a0B v.length fun i=>v.getD i (a0a .str)) <;> cases(a0B z.length fun i=>z.getD i (a0a .str)) <;> cases a0B d.2.1.length (fun i=>d.2.1.getD i (a0a .str)) <;> rfl
  have k3:∀v:List ByteArray,wf (.sl .str) v->q0D d v=some ((a0B v.length fun i=>v.getD i (a0a .str))&&a0B d.2.2.length (fun i=>(a0I d i).1)&&a0B d.2.1.length (fun i=>d.2.1.getD i (a0a .str))&&(g0n d.1.length d.2.2.length d.2.1.length (a0d d) (a0I d)).all (·==1)):=fun v hv=>by
   rw[q0D];have key:=lF (n:=d.2.2.length) hp0 (fun i (s:List ByteArray)=>((i:Int),s)) (m0O fun i=>(a0I d i).1) (fun i s=>s.length=i) (J:=q0C d v) (F:=B0i d v) (fun g i s hi hI=>by
    have e3:((i:Int)).toNat=i:=rfl;refine(if_pos (by simpa using hi)).trans ?_;rw[e3,gP ⟨oo,⟨by show s.length+1<=_; omega,by show(s.length+1)*16<=_; omega⟩,trivial⟩,gP ⟨oo,trivial⟩];rfl) (fun i s hi hI=>by unfold m0O; rw[List.length_append,hI]; rfl) (fun g s _=>aE) [] rfl
   refine key.trans ?_;rw[e0g d.2.2 (a0a y175) (fun c:b0h=>c.1),k2 _ _ hv hn2,c0V d.2.2 (fun c:b0h=>c.1) (a0a y175)]
  have key:=lF (n:=d.1.length) hi0 (fun i (s:List ByteArray)=>((i:Int),s)) (m0O fun i=>(a0d d i).1) (fun i s=>s.length=i) (J:=q0D d) (F:=B0j d) (fun g i s hi hI=>by
   have e3:((i:Int)).toNat=i:=rfl;refine(if_pos (by simpa using hi)).trans ?_;rw[e3,gP ⟨oo,⟨by show s.length+1<=_; omega,by show(s.length+1)*16<=_; omega⟩,trivial⟩,gP ⟨oo,trivial⟩];rfl) (fun i s hi hI=>by unfold m0O; rw[List.length_append,hI]; rfl) (fun g s _=>aE) [] rfl
  refine key.trans ?_;rw[e0g d.1 (a0a y165) (fun c:a0G=>c.1),k3 _ hn1,c0V d.1 (fun c:a0G=>c.1) (a0a y165)];unfold c0I;rw[hia,hpa,decide_eq_true h14,decide_eq_true h30,decide_eq_true h8];cases a0B d.1.length (fun i=>(a0d d i).1) <;> cases a0B d.2.1.length (fun i=>d.2.1.getD i (a0a .str)) <;> cases a0B d.2.2.length (fun i=>(a0I d i).1) <;> rfl
 ·have e0:(!j0M l||decide (14 < (d.1.length:Int))||decide (30 < (d.2.1.length:Int))||decide (8 < (d.2.2.length:Int))||!(!((List.range d.1.length).any fun i=>!c0Y l.length (b0v l) d.2.1.length (a0d d i))&&!((List.range d.2.2.length).any fun i=>!d0i d.2.1.length (a0I d i))))=true:=by
   rw[<- Bool.not_eq_false];intro hc;simp only[Bool.or_eq_false_iff,Bool.not_eq_false',decide_eq_false_iff_not,ba,Bool.not_eq_true'] at hc;exact hgo ⟨hc.1.1.1.1,by omega,by omega,by omega,hc.2.1,hc.2.2⟩
  refine(if_pos e0).trans ?_;refine congrArg some ?_
  symm
  rw[<- Bool.not_eq_true];intro hc;unfold c0I at hc;simp only[ba,dq,Bool.not_eq_true'] at hc;obtain⟨⟨⟨⟨⟨⟨⟨⟨⟨c1,c2⟩,c3⟩,c4⟩,_⟩,_⟩,_⟩,c5⟩,c6⟩,_⟩:=hc;exact hgo ⟨c1,c2,c3,c4,c5,c6⟩
abbrev d0H(w:b0H)(i:Nat):Bool:=(i==0&&(w.1.getD i 0 != -1||w.2.1.getD 0 0 != 0))||(decide (0<i)&&!inB (w.1.getD i 0) 0 ((i:Int)-1))
theorem H0s(w:b0H)(hw:wf a0j w)(hl:w.2.1.length=w.1.length):t0r w=some (!(List.range w.1.length).any (d0H w)):=by
 have h:=hw.1.1;have key:=b0e (n:=w.1.length) h (d0H w) (some false) (e:=some true) (F:=w0J w) (fun g i hi=>by
  have e3:((i:Int)).toNat=i:=rfl;have e0:((i:Int)==0)=(i==0):=by rw[Bool.eq_iff_iff,beq_iff_eq,beq_iff_eq]; omega
  have e2:decide ((0:Int) < (i:Int))=decide (0<i):=by rw[decide_eq_decide]; omega
  refine(if_pos (by simpa using hi)).trans ?_;rw[e3,e0,e2,p0A,vS,gP ⟨oo,trivial⟩,gP ⟨fun _=>oo,fun _=>oo,fun _=>rfl,trivial⟩,gP ⟨oo,trivial⟩];rfl) (fun g=>aE)
 refine key.trans ?_;cases(List.range w.1.length).any (d0H w) <;> rfl
theorem H0B(w:b0H)(n:Int)(hw:wf a0j w):A0v w n=some (e0R w n):=by
 obtain⟨⟨h1,_⟩,⟨h2,_⟩,⟨h3,_⟩,h4,_⟩:=id hw;have e:∀xs:List Int,d0t xs=some (xs.length:Int):=fun _=>rfl;unfold A0v;rw[e,e,e,e]
 repeat rw[vS]
 rw[gP ⟨rfl,trivial⟩,lE,p0A,z0c _ _ _ h2,z0c _ _ _ h3,z0c _ _ _ h4]
 repeat rw[vS]
 by_cases hgo:(inB (w.1.length:Int) 1 8&&(w.2.1.length:Int)==(w.1.length:Int)&&(w.2.2.1.length:Int)==(w.1.length:Int))=true
 ·have hg:=hgo;simp only[ba,beq_iff_eq,a0u] at hg;rw[H0s w hw (by omega),vS,gP ⟨rfl,fun _=>rfl,fun _=>rfl,fun _=>rfl,fun _=>rfl,fun _=>rfl,fun _=>rfl,fun _=>oo,fun _=>rfl,trivial⟩,lE];refine congrArg some ?_;rw[hgo];unfold e0R;rw[decide_eq_true (show 1<=w.1.length by omega),decide_eq_true (show w.1.length<=8 by omega),decide_eq_true (show w.2.1.length=w.1.length by omega),decide_eq_true (show w.2.2.1.length=w.1.length by omega)];cases(List.range w.1.length).any (d0H w) <;> cases w.2.1.all (inB · 0 1000) <;> cases w.2.2.1.all (inB · 0 500) <;> cases(w.2.2.2.length:Int)==n <;> cases w.2.2.2.all (inB · 0 ((w.1.length:Int)-1)) <;> rfl
 ·have hg:(inB (w.1.length:Int) 1 8&&(w.2.1.length:Int)==(w.1.length:Int)&&(w.2.2.1.length:Int)==(w.1.length:Int))=false:=by simpa using hgo
  rw[hg,gP ⟨rfl,fun _=>rfl,fun _=>rfl,fun hc=>by simp at hc,fun hc=>by simp at hc,fun hc=>by simp at hc,fun hc=>by simp at hc,fun hc=>by simp at hc,fun hc=>by simp at hc,trivial⟩,lE];refine congrArg some ?_;rw[hg];simp only[Bool.false_and]
  symm
  rw[<- Bool.not_eq_true];intro hc;unfold e0R at hc;simp only[ba,dq] at hc;refine hgo ?_;simp only[ba,beq_iff_eq,a0u];omega
theorem r70(w:b0H)(n:Int)(hw:wf a0j w):u70 w n=some (e0R w n):=by
 obtain⟨⟨h1,_⟩,⟨h2,_⟩,⟨h3,_⟩,h4,_⟩:=id hw;unfold u70;by_cases hgo:1<=w.1.length/\w.1.length<=8/\w.2.1.length=w.1.length/\w.2.2.1.length=w.1.length/\(w.2.2.2.length:Int)=n
 ·obtain⟨g1,g2,g3,g4,g5⟩:=hgo;have e0:(decide ((w.1.length:Int)<1)||decide (8 < (w.1.length:Int))||(w.2.1.length:Int) != (w.1.length:Int)||(w.2.2.1.length:Int) != (w.1.length:Int)||(w.2.2.2.length:Int) != n)=false:=by
   rw[<- Bool.not_eq_true]; simp; omega
  refine(if_neg (by rw[e0]; simp)).trans ?_;have k3:=b0e (n:=w.2.2.2.length) h4 (fun i=>!inB (w.2.2.2.getD i 0) 0 ((w.1.length:Int)-1)) (some false) (e:=some true) (F:=B0e w) (fun g i hi=>d0T hi h4 ⟨oo,oo,rfl,trivial⟩) (fun g=>aE);rw[a0X w.2.2.2 0 (fun x=>!inB x 0 ((w.1.length:Int)-1))] at k3;have k1:=b0e (n:=w.1.length) h1 (fun i=>(!inB (w.2.2.1.getD i 0) 0 500||!inB (w.2.1.getD i 0) 0 1000)||d0H w i) (some false) (e:=t0I w ()) (F:=B0f w) (fun g i hi=>by
   have e3:((i:Int)).toNat=i:=rfl;have e0:((i:Int)==0)=(i==0):=by rw[Bool.eq_iff_iff,beq_iff_eq,beq_iff_eq]; omega
   have e2:decide ((0:Int) < (i:Int))=decide (0<i):=by rw[decide_eq_decide]; omega
   refine(if_pos (by simpa using hi)).trans ?_;rw[e3,e0,e2,r97,r97,r97]
   repeat rw[vS]
   rw[gP ⟨oo,rfl,fun _=>oo,fun _=>rfl,trivial⟩,gP ⟨fun _=>oo,fun _=>oo,fun _=>oo,fun _=>oo,fun _=>rfl,trivial⟩,gP ⟨oo,trivial⟩];have e4:(i==0&&(w.1.getD i 0 != -1||w.2.1.getD i 0 != 0)||decide (0<i)&&!inB (w.1.getD i 0) 0 ((i:Int)-1))=d0H w i:=by
    unfold d0H;cases i with
    | zero=>rfl
    | succ i=>rfl
   rw[e4];cases(!inB (w.2.2.1.getD i 0) 0 500||!inB (w.2.1.getD i 0) 0 1000) <;> rfl) (fun g=>aE)
  refine k1.trans ?_;rw[o0Y,o0Y];have a1:=a0X w.2.2.1 0 (fun x=>!inB x 0 500);have a2:=a0X w.2.1 0 (fun x=>!inB x 0 1000);rw[g4] at a1;rw[g3] at a2;rw[a1,a2];unfold t0I;rw[k3];unfold e0R;rw[decide_eq_true g1,decide_eq_true g2,decide_eq_true g3,decide_eq_true g4,beq_iff_eq.2 g5,<- c0e,<- c0e,<- c0e];cases(List.range w.1.length).any (d0H w) <;> cases w.2.1.any (fun x=>!inB x 0 1000) <;> cases w.2.2.1.any (fun x=>!inB x 0 500) <;> cases w.2.2.2.any (fun x=>!inB x 0 ((w.1.length:Int)-1)) <;> rfl
 ·have e0:(decide ((w.1.length:Int)<1)||decide (8 < (w.1.length:Int))||(w.2.1.length:Int) != (w.1.length:Int)||(w.2.2.1.length:Int) != (w.1.length:Int)||(w.2.2.2.length:Int) != n)=true:=by
   rw[<- Bool.not_eq_false];intro hc;simp only[Bool.or_eq_false_iff,decide_eq_false_iff_not,bne_eq_false_iff_eq] at hc;exact hgo ⟨by omega,by omega,by omega,by omega,hc.2⟩
  refine(if_pos e0).trans ?_;refine congrArg some ?_
  symm
  rw[<- Bool.not_eq_true];intro hc;unfold e0R at hc;simp only[ba,dq,beq_iff_eq] at hc;exact hgo ⟨by omega,by omega,by omega,by omega,hc.1.1.1.1.2⟩
theorem r68(d:Y31)(hd:wf y31 d)(h14:d.1.length<=14)(h8:d.2.2.length<=8)(h5:∀i,i<d.1.length->1<=(a0d d i).2.2.length/\(a0d d i).2.2.length<=5):u68 d=some (a0S d.1.length d.2.2.length (a0d d) (a0I d)):=by
 have hi0:=hd.1.1;have hp0:=hd.2.2.1;unfold u68;have k5:∀s:List c0v,s.length<=70->q0E d s=some (fN (c0d (a0I d)) d.2.2.length s):=fun s0 hs=>by
  rw[q0E];exact lF (n:=d.2.2.length) hp0 (fun i (s:List c0v)=>((i:Int),s)) (c0d (a0I d)) (fun i s=>s.length=s0.length+i) (J:=fun s=>some s) (F:=B0l d) (fun g i s hi hI=>by
   have e3:((i:Int)).toNat=i:=rfl;refine(if_pos (by simpa using hi)).trans ?_;rw[e3,gP ⟨oo,trivial⟩,lE,gP ⟨⟨by show s.length+1<=_; omega,by show(s.length+1)*32<=_; omega⟩,trivial⟩,gP ⟨oo,trivial⟩];rfl) (fun i s hi hI=>by unfold c0d; rw[List.length_append,hI]; rfl) (fun g s _=>aE) s0 rfl
 have key:=lF (n:=d.1.length) hi0 (fun i (s:List c0v)=>(s,(i:Int))) (b0c (a0d d)) (fun i s=>s.length<=5*i) (J:=q0E d) (F:=B0n d) (fun g i s hi hI=>by
  have e3:((i:Int)).toNat=i:=rfl;have hx:=(h5 i hi).2;have hn:(a0d d i).2.2.length<=9223372036854775807:=by omega
  refine(if_pos (by simpa using hi)).trans ?_;rw[e3,gP ⟨oo,trivial⟩,lE];have inner:=lF (n:=(a0d d i).2.2.length) hn (fun k (s:List c0v)=>((k:Int),s)) (c0s (a0d d i) i) (fun k z=>z.length=s.length+k) (J:=y0A (i:Int) g) (F:=B0m (i:Int) (a0d d i) g) (fun g3 k z hk hz=>by
   have e4:((k:Int)).toNat=k:=rfl;refine(if_pos (by simpa using hk)).trans ?_;rw[e4,gP ⟨oo,trivial⟩,gP ⟨oo,⟨by show z.length+1<=_; omega,by show(z.length+1)*32<=_; omega⟩,trivial⟩,lE];exact gP ⟨oo,trivial⟩) (fun k z hk hz=>by unfold c0s; rw[List.length_append,hz]; rfl) (fun g3 z _=>aE) s rfl
  refine inner.trans ?_;exact gP ⟨oo,trivial⟩) (fun i s hi hI=>by
  have hx:=(h5 i hi).2;unfold b0c;rw[c0r];have hI':s.length<=5*i:=hI;omega) (fun g s _=>aE) [] (Nat.zero_le _)
 refine key.trans (k5 _ ?_);have:=d0j (x:=a0d d) (ni:=d.1.length) (fun i hi=>(h5 i hi).2) d.1.length (Nat.le_refl _);omega
theorem D0O(d:Y31)(hd:wf y31 d)(h14:d.1.length<=14)(h8:d.2.2.length<=8)(h5:∀i,i<d.1.length->1<=(a0d d i).2.2.length/\(a0d d i).2.2.length<=5):n0J d=some (a0S d.1.length d.2.2.length (a0d d) (a0I d)):=by
 have hi0:=hd.1.1;have hp0:=hd.2.2.1;unfold n0J;have k5:∀s:List d0E,s.length<=70->i0A d s=some (fN (c0d (a0I d)) d.2.2.length s):=fun s0 hs=>by
  rw[i0A];exact lF (n:=d.2.2.length) hp0 (fun i (s:List d0E)=>((i:Int),s)) (c0d (a0I d)) (fun i s=>s.length=s0.length+i) (J:=fun s=>some s) (F:=r0f d) (fun g i s hi hI=>by
   have e3:((i:Int)).toNat=i:=rfl;refine(if_pos (by simpa using hi)).trans ?_;rw[e3,gP ⟨oo,oo,⟨by show s.length+1<=_; omega,by show(s.length+1)*32<=_; omega⟩,trivial⟩,lE];exact gP ⟨oo,trivial⟩) (fun i s hi hI=>by unfold c0d; rw[List.length_append,hI]; rfl) (fun g s _=>aE) s0 rfl
 have key:=lF (n:=d.1.length) hi0 (fun i (s:List d0E)=>((i:Int),s)) (b0c (a0d d)) (fun i s=>s.length<=5*i) (J:=i0A d) (F:=r0h d) (fun g i s hi hI=>by
  have e3:((i:Int)).toNat=i:=rfl;have hx:=(h5 i hi).2;have hn:(a0d d i).2.2.length<=9223372036854775807:=by omega
  refine(if_pos (by simpa using hi)).trans ?_;rw[e3,gP ⟨oo,trivial⟩,lE];have inner:=lF (n:=(a0d d i).2.2.length) hn (fun k (s:List d0E)=>((k:Int),s)) (c0s (a0d d i) i) (fun k z=>z.length=s.length+k) (J:=n0I (i:Int) g) (F:=r0g (i:Int) (a0d d i) g) (fun g3 k z hk hz=>by
   have e4:((k:Int)).toNat=k:=rfl;refine(if_pos (by simpa using hk)).trans ?_;rw[e4,gP ⟨oo,oo,⟨by show z.length+1<=_; omega,by show(z.length+1)*32<=_; omega⟩,trivial⟩,lE];exact gP ⟨oo,trivial⟩) (fun k z hk hz=>by unfold c0s; rw[List.length_append,hz]; rfl) (fun g3 z _=>aE) s rfl
  refine inner.trans ?_;exact gP ⟨oo,trivial⟩) (fun i s hi hI=>by
  have hx:=(h5 i hi).2;unfold b0c;rw[c0r];have hI':s.length<=5*i:=hI;omega) (fun g s _=>aE) [] (Nat.zero_le _)
 refine key.trans (k5 _ ?_);have:=d0j (x:=a0d d) (ni:=d.1.length) (fun i hi=>(h5 i hi).2) d.1.length (Nat.le_refl _);omega
abbrev b0f(d:Y31):List a0q:=a0S d.1.length d.2.2.length (a0d d) (a0I d)
abbrev a0y(d:Y31)(i:Nat):a0q:=(b0f d).getD i (a0a y105)
abbrev a0h(b:Y34)(i:Nat):b0H:=b.2.2.getD i (a0a a0j)
def a0f(b:Y34):Bool:=d0o b.1 b.2.1&&decide (b.2.2.length=b.2.1.2.1.length)&&!(List.range b.2.2.length).any fun i=>!e0R (a0h b i) (l0O (a0y b.2.1) i (b0f b.2.1).length)
structure DF(l:List a0A)(d:Y31):Prop where
 lib:j0M l=true
 fac:DesignFacts l.length (b0v l) d.1.length d.2.2.length d.2.1.length (a0d d) (a0I d)
 pin:∀i,i<d.1.length->1<=(a0d d i).2.2.length/\(a0d d i).2.2.length<=5
 plc:i0R d.2.1.length (b0f d)
 len:(b0f d).length<=78
theorem g0r{l:List a0A}{d:Y31}(h:d0o l d=true):DF l d:=by
 obtain⟨h1,h2⟩:=l0K h;have hp:∀i,i<d.1.length->1<=(a0d d i).2.2.length/\(a0d d i).2.2.length<=5:=fun i hi=>by
  have hin:=h2.inst i hi;have g1:=(h0t hin (fun y hy=>(g0K h1 hy).1)).1;unfold c0Y at hin;simp only[ba,beq_iff_eq] at hin;have:=(g0K h1 hin.1.1).2;exact⟨g1,by omega⟩
 have hn:=h2.net;refine⟨h1,h2,hp,o0b hn.2 (i0N hn.1 d.1.length (Nat.le_refl _)) d.2.2.length (Nat.le_refl _),?_⟩;have:=d0j (x:=a0d d) (ni:=d.1.length) (fun i hi=>(hp i hi).2) d.1.length (Nat.le_refl _);have h14:=h2.ni14;have h8:=h2.np8;unfold b0f a0S;rw[d0K];omega
theorem r65(b:Y34)(hw:wf y34 b)(hm:cnt y34 b<=1048576):u65 b=some (a0f b):=by
 have hl:=hw.1;have hd:=hw.2.1;have h0:=hw.2.2.1;have mw:b.2.2.length<=1048576:=c0t (cS (cS hm));unfold u65 a0f;rw[H0C b.1 b.2.1 hl hd (cF hm) (cF (cS hm)),vS,gP ⟨rfl,trivial⟩];cases hdo:d0o b.1 b.2.1 with
 | false=>exact if_pos rfl
 | true =>
   have df:=g0r hdo;by_cases hlen:b.2.2.length=b.2.1.2.1.length
   ·have e0:((b.2.2.length:Int) != (b.2.1.2.1.length:Int))=false:=by rw[hlen]; simp
    rw[e0,decide_eq_true hlen];refine(if_neg (by simp)).trans ?_;rw[gP (r0E mw (by decide)),Int.toNat_natCast,r68 b.2.1 hd df.fac.ni14 df.fac.np8 df.pin,vS,gP ⟨rfl,trivial⟩,lE];have hpl:(b0f b.2.1).length<=9223372036854775807:=by have:=df.len; omega
    have hin:∀i,i < (b0f b.2.1).length->inB (a0y b.2.1 i).2.2.1 0 ((b.2.2.length:Int)-1)=true:=fun i hi=>by
     rw[hlen]; exact df.plc _ (a0V hi)
    have key:=lF (n:=(b0f b.2.1).length) hpl (fun i (v:List Int)=>((i:Int),v)) (j0r (a0y b.2.1)) (fun i v=>i<=(b0f b.2.1).length/\f0k v b.2.2.length i) (J:=t0M b) (F:=B0s (b0f b.2.1) b) (fun g i v hi hI=>by
     have e3:((i:Int)).toNat=i:=rfl;have j2:∀v',t0L (i:Int) g v'=g (((i+1:Nat):Int),v'):=fun v'=>gP ⟨oo,trivial⟩;refine(if_pos (by simpa using hi)).trans ?_;rw[e3,gP ⟨oo,hi,trivial⟩,lE,j2];show(if(!(a0y b.2.1 i).2.2.2)=true then _ else _)=g (_,j0r (a0y b.2.1) i v);unfold j0r;cases hdr:(a0y b.2.1 i).2.2.2 with
     | true=>rfl
     | false =>
       refine(if_pos rfl).trans ?_;refine(gP (l0z hI.2 (by have:=df.len; omega) (hin i hi))).trans ?_;rw[lE];exact j2 _) (fun i v hi hI=>⟨by omega,by
     unfold j0r;split
     ·exact c0W hI.2 _
     ·exact j0K hI.2 (by omega)⟩) (fun g v _=>aE) (List.replicate b.2.2.length 0) ⟨by omega,f0j _ _⟩
    refine key.trans ?_;obtain⟨s1,s2⟩:=k0Q (a0y b.2.1) b.2.2.length (b0f b.2.1).length hin;generalize fN (j0r (a0y b.2.1)) (b0f b.2.1).length (List.replicate b.2.2.length 0)=v at *
    rw[t0M];have key2:=b0e (n:=b.2.2.length) h0 (fun i=>!e0R (a0h b i) (l0O (a0y b.2.1) i (b0f b.2.1).length)) (some false) (e:=some true) (F:=B0r v b) (fun g i hi=>by
     have e3:((i:Int)).toNat=i:=rfl;refine(if_pos (by simpa using hi)).trans ?_;rw[e3,gP ⟨oo,trivial⟩,lE,s2 i hi,H0B _ _ (e0r hi hw.2.2),vS,gP ⟨oo,by omega,rfl,trivial⟩,gP ⟨oo,trivial⟩]) (fun g=>aE)
    refine key2.trans ?_;cases(List.range b.2.2.length).any fun i=>!e0R (a0h b i) (l0O (a0y b.2.1) i (b0f b.2.1).length) <;> rfl
   ·have e0:((b.2.2.length:Int) != (b.2.1.2.1.length:Int))=true:=by simp; omega
    rw[e0,decide_eq_false hlen];exact if_pos rfl
theorem r71(d:Y31)(hd:wf y31 d){l:List a0A}(df:DF l d)(t:Int):u71 d t=some (fN (c0G (a0y d) t) (b0f d).length []):=by
 have hl:=df.len;unfold u71;rw[D0O d hd df.fac.ni14 df.fac.np8 df.pin,vS,gP ⟨rfl,trivial⟩,lE];exact lF (n:=(b0f d).length) (by omega) (fun i (s:List Int)=>((i:Int),s)) (c0G (a0y d) t) (fun i s=>s.length<=i) (J:=fun s=>some s) (F:=y0y (b0f d) t) (fun g i s hi hI=>by
  have e3:((i:Int)).toNat=i:=rfl;have j2:∀s',p0g (i:Int) g s'=g (((i+1:Nat):Int),s'):=fun v'=>gP ⟨oo,trivial⟩;refine(if_pos (by simpa using hi)).trans ?_;have hI':s.length<=i:=hI;rw[e3,gP ⟨oo,hi,fun _=>oo,fun _=>hi,trivial⟩,gP ⟨⟨by show s.length+1<=_; omega,by show(s.length+1)*8<=_; omega⟩,trivial⟩,j2,j2];show _=g (_,c0G (a0y d) t i s);unfold c0G;show(if((a0y d i).2.2.1==t&&!(a0y d i).2.2.2)=true then _ else _)=_;split <;> rfl) (fun i s hi hI=>by
  have hI':s.length<=i:=hI;unfold c0G;split
  ·rw[List.length_append]; show s.length+1<=i+1; omega
  ·omega) (fun g s _=>aE) [] (Nat.le_refl _)
theorem r23(b:Y34)(hw:wf y34 b)(hm:cnt y34 b<=1048576):u23 b=some (a0f b):=by
 have hl:=hw.1;have hd:=hw.2.1;have h0:=hw.2.2.1;unfold u23 a0f;rw[r69 b.1 b.2.1 hl hd (cF (cS hm)),vS,gP ⟨rfl,trivial⟩];cases hdo:d0o b.1 b.2.1 with
 | false=>exact if_pos rfl
 | true =>
   have df:=g0r hdo;by_cases hlen:b.2.2.length=b.2.1.2.1.length
   ·have e0:((b.2.2.length:Int) != (b.2.1.2.1.length:Int))=false:=by rw[hlen]; simp
    rw[e0,decide_eq_true hlen];refine(if_neg (by simp)).trans ?_;have key2:=b0e (n:=b.2.2.length) h0 (fun i=>!e0R (a0h b i) (l0O (a0y b.2.1) i (b0f b.2.1).length)) (some false) (e:=some true) (F:=B0M b) (fun g i hi=>by
     have e3:((i:Int)).toNat=i:=rfl;refine(if_pos (by simpa using hi)).trans ?_;rw[e3,r71 b.2.1 hd df,vS,d0I,r70 _ _ (e0r hi hw.2.2),gP ⟨oo,rfl,rfl,trivial⟩,lE,d0I,r70 _ _ (e0r hi hw.2.2),vS,gP ⟨oo,trivial⟩]) (fun g=>aE)
    refine key2.trans ?_;cases(List.range b.2.2.length).any fun i=>!e0R (a0h b i) (l0O (a0y b.2.1) i (b0f b.2.1).length) <;> rfl
   ·have e0:((b.2.2.length:Int) != (b.2.1.2.1.length:Int))=true:=by simp; omega
    rw[e0,decide_eq_false hlen];exact if_pos rfl
theorem a0K{b:Y34}(h:a0f b=true):d0o b.1 b.2.1=true/\b.2.2.length=b.2.1.2.1.length/\∀i,i<b.2.2.length->e0R (a0h b i) (l0O (a0y b.2.1) i (b0f b.2.1).length)=true:=by
 unfold a0f at h;rw[ba,ba,dq] at h;refine⟨h.1.1,h.1.2,fun i hi=>?_⟩;have:=b0C.1 h.2 i hi
 rwa [Bool.not_eq_false'] at this
abbrev a0r(d:Y31)(t:Int):List Int:=fN (c0G (a0y d) t) (b0f d).length []
def A0F(l:List a0A)(d:Y31)(p:a0q):Int:=if p.1<0 then 0 else((l.getD (a0d d p.1.toNat).2.1.toNat (a0a y163)).2.2.1.getD p.2.1.toNat (a0a y217)).2.2.1
theorem m0A{d:Y31}{i:Nat}(h:i < (b0f d).length):a0y d i∈b0f d:=a0V h
theorem l0s{l:List a0A}(h:j0M l=true){i:Nat}(hi:i<l.length):d0y a0J (d0C l i)=true:=by
 have h:t0u _ _ _=true:=h;unfold t0u at h;rw[ba] at h;have:=b0C.1 h.1 i hi;rw[Bool.or_eq_false_iff,Bool.not_eq_false'] at this;exact this.1
theorem r0H{l:List a0A}{d:Y31}(df:DF l d){p:a0q}(hp:p∈b0f d):(p.1 = -1/\0<=p.2.1/\p.2.1.toNat<d.2.2.length) ∨
  (0<=p.1/\p.1.toNat<d.1.length/\0<=(a0d d p.1.toNat).2.1/\(a0d d p.1.toNat).2.1.toNat<l.length/\0<=p.2.1/\p.2.1.toNat < (l.getD (a0d d p.1.toNat).2.1.toNat (a0a y163)).2.2.1.length):=by
 rcases m0B d.1.length d.2.2.length (a0d d) (a0I d) p hp with h | ⟨h1,h2,h3,h4⟩
 ·exact .inl h
 ·have hin:=df.fac.inst p.1.toNat h2;unfold c0Y at hin;simp only[ba,beq_iff_eq] at hin;have h5:=a0u.1 hin.1.1;have h6:=hin.1.2;refine .inr ⟨h1,h2,h5.1,by omega,h3,?_⟩;have h6:((a0d d p.1.toNat).2.2.length:Int)=((l.getD (a0d d p.1.toNat).2.1.toNat (a0a y163)).2.2.1.length:Int):=h6;omega
theorem z0e{l:List a0A}{d:Y31}(df:DF l d){p:a0q}(hp:p∈b0f d):0<=A0F l d p/\A0F l d p<=500:=by
 unfold A0F;split
 ·exact⟨by decide,by decide⟩
 ·rename_i hn;rcases r0H df hp with h | ⟨h1,h2,h3,h4,h5,h6⟩
  ·omega
  ·have hc:d0B a0J _ _ _ _ _ _ _ _ _=true:=l0s df.lib h4;unfold d0B c0U at hc;simp only[ba] at hc;have:=b0C.1 hc.1.1.1.1.2.2 p.2.1.toNat h6;rw[Bool.not_eq_false'] at this;unfold q0h at this;rw[ba] at this;exact a0u.1 this.1
theorem f0b{d:Y31}{t:Int}{k:Nat}(h:k < (a0r d t).length):0<=(a0r d t).getD k 0/\((a0r d t).getD k 0).toNat < (b0f d).length:=by
 obtain⟨j,h1,h2,_⟩:=g0F (a0y d) t (b0f d).length _ (a0V (d:=0) h);rw[h1];exact⟨Int.natCast_nonneg _,by simpa using h2⟩
structure NetOk(b:Y34)(i:Nat):Prop where
 df:DF b.1 b.2.1
 lt:i<b.2.2.length
 wf:m0a (a0h b i) ((a0r b.2.1 i).length:Int)
theorem l0l{b:Y34}(h:a0f b=true){i:Nat}(hi:i<b.2.2.length):NetOk b i:=by
 obtain⟨h1,h2,h3⟩:=a0K h;refine⟨g0r h1,hi,?_⟩;rw[d0I];exact p0e (h3 i hi)
def f0f(b:Y34)(i k:Nat):Int:=(a0h b i).2.2.2.getD k 0
def s0Y(b:Y34)(i k:Nat):Int:=A0F b.1 b.2.1 (a0y b.2.1 ((a0r b.2.1 i).getD k 0).toNat)
def p0F(b:Y34)(i k:Nat):Int:=(a0h b i).1.getD k 0
def u0y(b:Y34)(i k:Nat):Int:=(a0h b i).2.1.getD k 0
def a0L(b:Y34)(i:Nat):List Int:=C0v (a0h b i).2.2.1 (a0h b i).1.length (a0r b.2.1 i).length (f0f b i) (s0Y b i) (p0F b i)
theorem NetOk.sn{b:Y34}{i:Nat}(h:NetOk b i):(a0h b i).2.2.2.length=(a0r b.2.1 i).length:=by have:=h.wf.snk; omega
theorem NetOk.s78{b:Y34}{i:Nat}(h:NetOk b i):(a0r b.2.1 i).length<=78:=by
 have h1:=h.df.len;have h2:=s0R (a0y b.2.1) i (b0f b.2.1).length;have h3:=d0I (a0y b.2.1) i (b0f b.2.1).length;have h4:((a0r b.2.1 i).length:Int)=l0O (a0y b.2.1) i (b0f b.2.1).length:=h3;omega
theorem NetOk.capIn{b:Y34}{i:Nat}(h:NetOk b i){k:Nat}(hk:k < (a0r b.2.1 i).length):0<=f0f b i k/\(f0f b i k).toNat < (a0h b i).1.length/\0<=s0Y b i k/\s0Y b i k<=500:=by
 have h1:=h.wf.snkIn k (by rw[h.sn]; exact hk);have h2:=z0e h.df (m0A (f0b hk).2);exact⟨h1.1,h1.2,h2.1,h2.2⟩
theorem NetOk.low{b:Y34}{i:Nat}(h:NetOk b i):∀m,m<=(a0r b.2.1 i).length->Low (fN (y0l (f0f b i) (s0Y b i)) m (a0h b i).2.2.1) (a0h b i).1.length (500*((a0h b i).1.length:Int)+500*(m:Int)):=fun m hm=>o0Q (z0t h.wf.cap h.wf.capOk) m (fun k hk=>h.capIn (by omega))
theorem NetOk.pull{b:Y34}{i:Nat}(h:NetOk b i):∀k,k<=(a0h b i).1.length-1->D0g (fN (f0I (p0F b i) (a0h b i).1.length) k (fN (y0l (f0f b i) (s0Y b i)) (a0r b.2.1 i).length (a0h b i).2.2.1)) (a0h b i).1.length k 43000:=by
 have h1:=h.low _ (Nat.le_refl _);have h2:=h.s78;have h3:=h.wf.n8;have h4:Low (fN (y0l (f0f b i) (s0Y b i)) (a0r b.2.1 i).length (a0h b i).2.2.1) (a0h b i).1.length 43000:=⟨h1.len,h1.pos,by have:=h1.sum; omega⟩;exact k0X h4 (by decide) (fun k h0 hk=>h.wf.par k h0 hk)
theorem NetOk.loads{b:Y34}{i:Nat}(h:NetOk b i):(a0L b i).length=(a0h b i).1.length/\∀j,0<=(a0L b i).getD j 0/\(a0L b i).getD j 0<=43000:=by
 have:=h.pull _ (Nat.le_refl _);exact⟨this.len,fun j=>⟨this.pos j,this.bd j⟩⟩
abbrev b0G(b:Y34)(i:Nat):a0A:=b.1.getD (a0d b.2.1 i).2.1.toNat (a0a y163)
theorem b0K{b:Y34}(df:DF b.1 b.2.1){i:Nat}(hi:i<b.2.1.1.length):ix (a0d b.2.1 i).2.1 b.1.length/\d0y a0J (b0G b i)=true/\(a0d b.2.1 i).2.2.length=(b0G b i).2.2.1.length:=by
 have:=df.fac.inst i hi;unfold c0Y at this;rw[ba,ba,beq_iff_eq] at this;have h1:=a0u.1 this.1.1;have h2:=this.1.2;have h3:((a0d b.2.1 i).2.2.length:Int)=((b0G b i).2.2.1.length:Int):=h2;exact⟨⟨h1.1,by omega⟩,l0s df.lib (by omega),by omega⟩
theorem c0u{c:a0A}(h:d0y a0J c=true):2<=c.2.2.1.length/\c.2.2.1.length<=5/\c.2.2.2.1.length<=8/\∀j,j<c.2.2.2.1.length->0<=(a0c c j).2.1/\(a0c c j).2.1 < (c.2.2.1.length:Int)-1/\0<=(a0c c j).2.2.1/\(a0c c j).2.2.1 < (c.2.2.1.length:Int):=by
 have h:d0B a0J _ _ _ _ _ _ _ _ _=true:=h;unfold d0B n0e at h;simp only[ba,dq] at h;have hp:=c0T h.1.1.1.1.2;refine⟨hp.1,hp.2.1,h.1.1.1.2.1,fun j hj=>?_⟩;have:=b0C.1 h.1.1.1.2.2 j hj;rw[Bool.or_eq_false_iff,Bool.not_eq_false'] at this;have ha:=this.1;unfold a0J at ha;rw[ba,ba] at ha;have h1:=a0u.1 ha.1.1;have h2:=a0u.1 ha.1.2;omega
theorem H0p(l:List a0A)(d:Y31)(df:DF l d){p:a0q}(hp:p∈b0f d):y0P d l p=some (A0F l d p):=by
 unfold y0P A0F;rcases r0H df hp with h | ⟨h1,h2,h3,h4,h5,h6⟩
 ·rw[if_pos (by rw[h.1]; decide),if_pos (by omega)]
 ·refine(if_neg (by simp; omega)).trans ?_;rw[if_neg (by omega),gP ⟨oo,⟨h3,by show(a0d d p.1.toNat).2.1<_; omega⟩,⟨h5,by show p.2.1 < (((l.getD (a0d d p.1.toNat).2.1.toNat (a0a y163)).2.2.1.length:Nat):Int); omega⟩,trivial⟩];rfl
theorem H0q(d:Y31)(hd:wf y31 d){l:List a0A}(df:DF l d)(t:Int):B0V d t=some (a0r d t):=by
 have hl:=df.len;unfold B0V;rw[r68 d hd df.fac.ni14 df.fac.np8 df.pin,vS,gP ⟨rfl,trivial⟩,lE];exact lF (n:=(b0f d).length) (by omega) (fun i (s:List Int)=>(s,(i:Int))) (c0G (a0y d) t) (fun i s=>s.length<=i) (J:=fun s=>some s) (F:=w0H t (b0f d)) (fun g i s hi hI=>by
  have e3:((i:Int)).toNat=i:=rfl;have j2:∀s',n0x (i:Int) g s'=g (s',((i+1:Nat):Int)):=fun v'=>gP ⟨oo,trivial⟩;refine(if_pos (by simpa using hi)).trans ?_;have hI':s.length<=i:=hI;rw[e3,gP ⟨oo,hi,trivial⟩,lE,gP ⟨⟨by show s.length+1<=_; omega,by show(s.length+1)*8<=_; omega⟩,trivial⟩,j2,j2];show _=g (c0G (a0y d) t i s,_);unfold c0G;show(if((a0y d i).2.2.1==t&&!(a0y d i).2.2.2)=true then _ else _)=_;split <;> rfl) (fun i s hi hI=>by
  have hI':s.length<=i:=hI;unfold c0G;split
  ·rw[List.length_append]; show s.length+1<=i+1; omega
  ·omega) (fun g s _=>aE) [] (Nat.le_refl _)
theorem F0I(xs:List Int)(h:xs.length<=1048576):x0c xs=some xs:=gP ⟨oo,trivial⟩
theorem F0J(b:Y34)(hw:wf y34 b){i:Nat}(h:NetOk b i):r0b b (i:Int)=some (a0L b i):=by
 have hd:=hw.2.1;have df:=h.df;have hb:=hw.2.2.1;have hi:=h.lt;have n1:=h.wf.n1;have n8:=h.wf.n8;have hsn:=h.sn;have hs:=h.s78;have hcl:=h.wf.cap;unfold r0b;have e3:((i:Int)).toNat=i:=rfl;rw[gP ⟨oo,trivial⟩,lE,e3,F0I _ (by show(a0h b i).2.2.1.length<=_; omega),vS,gP ⟨rfl,trivial⟩,lE,r68 b.2.1 hd df.fac.ni14 df.fac.np8 df.pin,vS,gP ⟨rfl,trivial⟩,lE,H0q b.2.1 hd df,vS,gP ⟨rfl,trivial⟩,lE];have key:=lF (n:=(a0r b.2.1 i).length) (by omega) (fun k (s:List Int)=>((k:Int),s)) (y0l (f0f b i) (s0Y b i)) (fun k v=>Low v (a0h b i).1.length (500*((a0h b i).1.length:Int)+500*(k:Int))) (J:=n0F (a0h b i)) (F:=x0r b (b0f b.2.1) (a0r b.2.1 i) (a0h b i)) (fun g k v hk hI=>by
  have e4:((k:Int)).toNat=k:=rfl;obtain⟨c1,c2,c3,c4⟩:=h.capIn hk;obtain⟨c5,c6⟩:=f0b hk;have hv:=hI.bd (by omega) (f0f b i k).toNat;have c1':0<=(a0h b i).2.2.2.getD k 0:=c1;have c2':((a0h b i).2.2.2.getD k 0).toNat<v.length:=by rw[hI.len]; exact c2
  refine(if_pos (by simpa using hk)).trans ?_;rw[e4,gP ⟨oo,hk,trivial⟩,H0p b.1 b.2.1 df (m0A c6),vS];rw[gP ⟨oo,⟨c1',by omega⟩,c2',⟨c5,by omega⟩,c6,rfl,⟨by show _<=v.getD (f0f b i k).toNat 0+s0Y b i k; omega,by show v.getD (f0f b i k).toNat 0+s0Y b i k<=_; omega⟩,⟨c1',by omega⟩,c2',trivial⟩,lE];exact gP ⟨oo,trivial⟩) (fun k v hk hI=>by
  obtain⟨c1,c2,c3,c4⟩:=h.capIn hk;have:=hI.add c2 c3;refine⟨this.len,this.pos,Int.le_trans this.sum ?_⟩;rw[Int.natCast_add,Int.mul_add];simp only[Int.natCast_one];omega) (fun g s _=>aE) (a0h b i).2.2.1 (by
  have:=h.low 0 (Nat.zero_le _);exact this)
 refine key.trans ?_;have hl0:=(h.low _ (Nat.le_refl _)).len;have hp0:=h.pull 0 (Nat.zero_le _);have hL:a0L b i=fN (f0I (p0F b i) (a0h b i).1.length) ((a0h b i).1.length-1) (fN (y0l (f0f b i) (s0Y b i)) (a0r b.2.1 i).length (a0h b i).2.2.1):=rfl;rw[hL];have hpl:=h.pull;generalize fN (y0l (f0f b i) (s0Y b i)) (a0r b.2.1 i).length (a0h b i).2.2.1=v0 at hl0 hp0 hpl ⊢;rw[n0F,hl0,gP ⟨oo,trivial⟩];have e5:(((a0h b i).1.length:Int)-1,v0)=(fun(k:Nat) (s:List Int)=>(((a0h b i).1.length:Int)-1-(k:Int),s)) 0 v0:=by simp
 rw[e5];exact lF (n:=(a0h b i).1.length-1) (by omega) (fun(k:Nat) (s:List Int)=>(((a0h b i).1.length:Int)-1-(k:Int),s)) (f0I (p0F b i) (a0h b i).1.length) (fun k v=>D0g v (a0h b i).1.length k 43000) (J:=fun s=>some s) (F:=i0z (a0h b i)) (fun g k v hk hI=>by
  have hp:=h.wf.par ((a0h b i).1.length-1-k) (by omega) (by omega);have hp':0<=(a0h b i).1.getD ((a0h b i).1.length-1-k) 0/\((a0h b i).1.getD ((a0h b i).1.length-1-k) 0).toNat < (a0h b i).1.length-1-k:=hp;have hlen:=hI.len;have e6:((a0h b i).1.length:Int)-1-(k:Int)=(((a0h b i).1.length-1-k:Nat):Int):=by omega
  have e7:((((a0h b i).1.length-1-k:Nat):Int)).toNat=(a0h b i).1.length-1-k:=rfl;have b1:=hI.pos ((a0h b i).1.getD ((a0h b i).1.length-1-k) 0).toNat;have b2:=hI.bd ((a0h b i).1.getD ((a0h b i).1.length-1-k) 0).toNat;have b3:=hI.pos ((a0h b i).1.length-1-k);have b4:=hI.bd ((a0h b i).1.length-1-k);have e8:((a0h b i).1.length:Int)-1-((k+1:Nat):Int)=(((a0h b i).1.length-1-k:Nat):Int)-1:=by omega
  show i0z (a0h b i) g (((a0h b i).1.length:Int)-1-(k:Int),v)=g (((a0h b i).1.length:Int)-1-((k+1:Nat):Int),f0I (p0F b i) (a0h b i).1.length k v);rw[e8,e6];refine(if_pos (decide_eq_true (by omega))).trans ?_;rw[e7,gP ⟨oo,⟨hp'.1,by omega⟩,by omega,oo,by omega,oo,⟨hp'.1,by omega⟩,by omega,trivial⟩,lE];exact gP ⟨oo,trivial⟩) (fun k v hk hI=>k0W hI hk (h.wf.par _ (by omega) (by omega))) (fun g s _=>by
  have e9:((a0h b i).1.length:Int)-1-(((a0h b i).1.length-1:Nat):Int)=0:=by omega
  show i0z (a0h b i) g (((a0h b i).1.length:Int)-1-(((a0h b i).1.length-1:Nat):Int),s)=some s;rw[e9];have:i0z (a0h b i) g (0,s)=r0a s:=by
   rw[i0z];exact if_neg (by decide)
  exact this.trans rfl) v0 hp0
def e0D(b:Y34)(i:Nat):List Int:=z0J (a0h b i).1.length (p0F b i) (u0y b i) (fun k=>(a0L b i).getD k 0)
def d0O(b:Y34)(i:Nat):List Int:=fN (exF (e0D b i) (f0f b i)) (a0r b.2.1 i).length []
theorem NetOk.del{b:Y34}{i:Nat}(h:NetOk b i):∀k,k<=(a0h b i).1.length-1->(fN (m0g (p0F b i) (u0y b i) (fun k=>(a0L b i).getD k 0)) k [0]).length=k+1/\∀j,0<=(fN (m0g (p0F b i) (u0y b i) (fun k=>(a0L b i).getD k 0)) k [0]).getD j 0/\(fN (m0g (p0F b i) (u0y b i) (fun k=>(a0L b i).getD k 0)) k [0]).getD j 0<=1000*43000*(k:Int) :=
 s0N (n:=(a0h b i).1.length) (fun k hk=>h.wf.resIn k hk) (fun k _=>h.loads.2 k) (by decide)
theorem NetOk.delays{b:Y34}{i:Nat}(h:NetOk b i):(e0D b i).length=(a0h b i).1.length/\∀j,0<=(e0D b i).getD j 0/\(e0D b i).getD j 0<=301000000:=by
 have h1:=h.del _ (Nat.le_refl _);have n1:=h.wf.n1;have n8:=h.wf.n8;refine⟨h1.1.trans (by omega),fun j=>⟨(h1.2 j).1,Int.le_trans (h1.2 j).2 (by omega)⟩⟩
theorem H0o(b:Y34)(hw:wf y34 b){i:Nat}(h:NetOk b i):B0U b (i:Int)=some (e0D b i):=by
 have hi:=h.lt;have hb:=hw.2.2.1;have n1:=h.wf.n1;have n8:=h.wf.n8;have hr:=h.wf.res;obtain⟨ll,lb⟩:=h.loads;have e3:((i:Int)).toNat=i:=rfl;unfold B0U;rw[F0J b hw h,vS,gP ⟨oo,rfl,trivial⟩,lE,e3];show gd ((0<=((a0L b i).length:Int)/\((a0L b i).length:Int)=((a0L b i).length:Int)/\((a0L b i).length:Int).toNat*8<=281474976710656/\((a0L b i).length:Int)<=9223372036854775807)/\True) (lp (k0z (a0h b i) (a0L b i)) (1,List.replicate ((a0L b i).length:Int).toNat 0))=_;rw[ll,gP ⟨⟨by omega,rfl,by omega,by omega⟩,trivial⟩];have e5:((1:Int),List.replicate ((a0h b i).1.length:Int).toNat (0:Int))=(fun(k:Nat) (s:List Int)=>(((k+1:Nat):Int),s++List.replicate ((a0h b i).1.length-1-k) 0)) 0 [0]:=by
  show((1:Int),List.replicate (a0h b i).1.length (0:Int))=_;have:(a0h b i).1.length=((a0h b i).1.length-1)+1:=by omega
  rw[this,List.replicate_succ];rfl
 rw[e5];refine(lF (n:=(a0h b i).1.length-1) (by omega) (fun(k:Nat) (s:List Int)=>(((k+1:Nat):Int),s++List.replicate ((a0h b i).1.length-1-k) 0)) (m0g (p0F b i) (u0y b i) (fun k=>(a0L b i).getD k 0)) (fun k s=>s.length=k+1/\∀j,0<=s.getD j 0/\s.getD j 0<=1000*43000*(k:Int)) (J:=fun s=>some s) (F:=k0z (a0h b i) (a0L b i)) (fun g k s hk hI=>?_) (fun k s hk hI=>?_) (fun g s hI=>?_) [0] ?_)
 ·obtain⟨hl,hs⟩:=hI;have hp:=h.wf.par (k+1) (by omega) (by omega);have hfl:(s++List.replicate ((a0h b i).1.length-1-k) (0:Int)).length=(a0h b i).1.length:=by rw[List.length_append,List.length_replicate]; omega
  have e4:(((k+1:Nat):Int)).toNat=k+1:=rfl;have hg:=v0C (n:=(a0h b i).1.length) hl hp.2;have r1:=h.wf.resIn (k+1) (by omega);have l1:=lb (k+1);have hm:=r0X r1.1 r1.2 l1.1 l1.2;have hs1:=hs ((a0h b i).1.getD (k+1) 0).toNat;show k0z (a0h b i) (a0L b i) g (((k+1:Nat):Int),s++List.replicate ((a0h b i).1.length-1-k) 0)=g (((k+1+1:Nat):Int),m0g (p0F b i) (u0y b i) (fun k=>(a0L b i).getD k 0) k s++List.replicate ((a0h b i).1.length-1-(k+1)) 0);have e6:m0g (p0F b i) (u0y b i) (fun k=>(a0L b i).getD k 0) k s++List.replicate ((a0h b i).1.length-1-(k+1)) 0=(s++List.replicate ((a0h b i).1.length-1-k) 0).set (k+1) (s.getD ((a0h b i).1.getD (k+1) 0).toNat 0+(a0h b i).2.1.getD (k+1) 0*(a0L b i).getD (k+1) 0):=(v0B hl (by omega)).symm;rw[e6,<- hg];generalize s++List.replicate ((a0h b i).1.length-1-k) (0:Int)=v at hfl hg ⊢;refine(if_pos (by simp; omega)).trans ?_;rw[e4,gP ⟨oo,⟨hp.1,by omega⟩,by omega,oo,oo,by omega,oo,oo,oo,by omega,trivial⟩,lE];exact gP ⟨oo,trivial⟩
 ·obtain⟨hl,hs⟩:=hI;have r1:=h.wf.resIn (k+1) (by omega);have l1:=lb (k+1);have hm:=r0X r1.1 r1.2 l1.1 l1.2;have hs1:=hs (p0F b i (k+1)).toNat;unfold m0g;refine⟨by rw[List.length_append,hl]; rfl,fun j=>?_⟩;have hm:0<=u0y b i (k+1)*(a0L b i).getD (k+1) 0/\u0y b i (k+1)*(a0L b i).getD (k+1) 0<=1000*43000:=hm;rcases Nat.lt_or_ge j s.length with hj | hj
  ·have:=hs j;rw[b0Z hj]; omega
  ·rw[c0Z hj];cases hjs:j-s.length with
   | zero=>simp only[List.getD_cons_zero]; omega
   | succ q=>simp only[List.getD_cons_succ,List.getD_nil]; omega
 ·have e9:(a0h b i).1.length-1-((a0h b i).1.length-1)=0:=by omega
  show k0z (a0h b i) (a0L b i) g ((((a0h b i).1.length-1+1:Nat):Int),s++List.replicate ((a0h b i).1.length-1-((a0h b i).1.length-1)) 0)=some s;rw[e9,List.replicate_zero,List.append_nil,<- hI.1];exact aE
 ·exact h.del 0 (Nat.zero_le _)
theorem H0z(b:Y34)(hw:wf y34 b){i:Nat}(h:NetOk b i):x0q b (i:Int)=some (d0O b i):=by
 have hi:=h.lt;have hb:=hw.2.2.1;have hsn:=h.sn;have hs:=h.s78;obtain⟨dl,db⟩:=h.delays;have e3:((i:Int)).toNat=i:=rfl;unfold x0q;rw[H0o b hw h,vS,gP ⟨rfl,trivial⟩,lE,gP ⟨oo,trivial⟩,lE,e3];unfold d0O;rw[<- hsn];exact lF (n:=(a0h b i).2.2.2.length) (by omega) (fun(k:Nat) (s:List Int)=>(s,(k:Int))) (exF (e0D b i) (f0f b i)) (fun k s=>s.length=k) (J:=fun s=>some s) (F:=x0o (e0D b i) (a0h b i)) (fun g k s hk hI=>by
  have e4:((k:Int)).toNat=k:=rfl;have h1:=h.wf.snkIn k hk;have hI:s.length=k:=hI;refine(if_pos (by simpa using hk)).trans ?_;rw[e4,gP ⟨oo,trivial⟩,gP ⟨⟨h1.1,by omega⟩,by omega,⟨by show s.length+1<=_; omega,by show(s.length+1)*8<=_; omega⟩,trivial⟩,lE];exact gP ⟨oo,trivial⟩) (fun k s hk hI=>by
  have hI:s.length=k:=hI;unfold exF;rw[List.length_append,hI]; rfl) (fun g s _=>aE) [] rfl
theorem H0r(a:c0f):B0W a=some (b0r a.1 a.2.2.2.1):=by
 unfold B0W b0r;split
 ·rfl
 split
 ·rfl
 split
 ·rfl
 split
 ·rfl
 split
 ·rfl
 ·rfl
theorem H0A(b:Y34)(df:DF b.1 b.2.1){i:Nat}(hi:i<b.2.1.1.length)(f:Int)(h0:0<=f)(h1:f<=1000):x0t b (a0d b.2.1 i) f=some (a0Q f (a0c (b0G b i)) (b0G b i).2.2.2.1.length):=by
 obtain⟨x1,x2,x3⟩:=b0K df hi;obtain⟨c1,c2,c3,c4⟩:=c0u x2;unfold x0t;rw[gP ⟨x1,trivial⟩,lE];show lp (r0d f (b0G b i)) ([],0)=_;generalize b0G b i=c at c1 c2 c3 c4;refine lF (n:=c.2.2.2.1.length) (by omega) (fun(j:Nat) (s:List a0D)=>(s,(j:Int))) (d0D f (a0c c)) (fun j s=>s.length<=4*j) (J:=fun s=>some s) (F:=r0d f c) (fun g j s hj hI=>?_) (fun j s hj hI=>?_) (fun g s _=>aE) [] (Nat.le_refl _)
 ·have e4:((j:Int)).toNat=j:=rfl;obtain⟨a1,a2,a3,a4⟩:=c4 j hj;have hI:s.length<=4*j:=hI;refine(if_pos (by simpa using hj)).trans ?_;rw[e4,gP ⟨oo,trivial⟩,lE,H0r,vS,gP ⟨rfl,trivial⟩,lE];show lp (r0c f (a0c c j) (j:Int) (b0r (a0c c j).1 (a0c c j).2.2.2.1) g) (0,s)=g (d0D f (a0c c) j s,_);obtain⟨t1,t2⟩:=g0S (a0c c j).1 (a0c c j).2.2.2.1;have ec:d0D f (a0c c) j s=fN (c0b f (a0c c j).2.1 (a0c c j).2.2.1 (j:Int) (b0r (a0c c j).1 (a0c c j).2.2.2.1)) (b0r (a0c c j).1 (a0c c j).2.2.2.1).length s:=rfl;rw[ec];generalize b0r (a0c c j).1 (a0c c j).2.2.2.1=tr at t1 t2;generalize a0c c j=a at a1 a2 a3 a4;refine(lF (n:=tr.length) (by omega) (fun(k:Nat) (s:List a0D)=>((k:Int),s)) (c0b f a.2.1 a.2.2.1 (j:Int) tr) (fun k z=>z.length=s.length+k) (J:=fun z=>r0e (j:Int) g z) (F:=r0c f a (j:Int) tr g) (fun g3 k z hk hz=>?_) (fun k z hk hz=>?_) (fun g3 z _=>aE) s rfl).trans ?_
  ·have e5:((k:Int)).toNat=k:=rfl;have ht:=t2 _ (a0V (d:=((0,0):Int×Int)) hk);have hz:z.length=s.length+k:=hz;refine(if_pos (by simpa using hk)).trans ?_;rw[e5,gP ⟨oo,hk,trivial⟩,lE];show gd _ _=_;rw[gP ⟨oo,oo,oo,⟨by show _<=2*(f+a.2.1)+(tr.getD k (0,0)).1; omega,by show 2*(f+a.2.1)+(tr.getD k (0,0)).1<=_; omega⟩,oo,oo,oo,⟨by show _<=2*(f+a.2.2.1)+(tr.getD k (0,0)).2; omega,by show 2*(f+a.2.2.1)+(tr.getD k (0,0)).2<=_; omega⟩,⟨by show z.length+1<=_; omega,by show(z.length+1)*32<=_; omega⟩,trivial⟩,lE];exact gP ⟨oo,trivial⟩
  ·have hz:z.length=s.length+k:=hz;unfold c0b;rw[List.length_append,hz]; rfl
  ·exact gP ⟨oo,trivial⟩
 ·have hI:s.length<=4*j:=hI;have:=h0K f (a0c c) j s;show _<=4*(j+1);omega
end Go.Proofs.YtphnknndgfgepaaGreatDoor
end
