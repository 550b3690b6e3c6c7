/- Wires and places: what the program's functions and the reference's say of them. -/
import Derived.Test.YtphnknndgfgepaaGreatDoorWD6
import Derived.Test.YtphnknndgfgepaaGreatDoorWB6
import Derived.Test.YtphnknndgfgepaaGreatDoorG76
import Derived.Test.YtphnknndgfgepaaGreatDoorWC6
section
namespace Go.Proofs.YtphnknndgfgepaaGreatDoor
open Go Go.Proofs Go.Proofs.Sv Go.Proofs.Xv Go.Proofs.Xl Go.Proofs.Xd
abbrev Xx(w:x9)(i:Nat):Bool:=(i==0&&(w.1.getD i 0 != -1||w.2.1.getD 0 0 != 0))||(decide (0<i)&&!inB (w.1.getD i 0) 0 ((i:Int)-1))
theorem H0i(w:x9)(hw:wf l6 w)(hl:w.2.1.length=w.1.length):t0k w=some (!(List.range w.1.length).any (Xx w)):=by
 have h:=hw.1.1;have key:=I6 (n:=w.1.length) h (Xx w) (some false) (e:=some true) (F:=w0w w) (fun g i hi=>by
  have e3:((i:Int)).toNat=i:=rfl;have e0:((i:Int)==0)=(i==0):=by rw[Bool.eq_iff_iff,beq_iff_eq,beq_iff_eq]; omega
  have e2:decide ((0:Int) < (i:Int))=decide (0<i):=by rw[decide_eq_decide]; omega
  refine(if_pos (by simpa using hi)).trans ?_;rw[e3,e0,e2,X3,vS,gP ⟨oo,trivial⟩,gP ⟨fun _=>oo,fun _=>oo,fun _=>rfl,trivial⟩,gP ⟨oo,trivial⟩];rfl) (fun g=>aE)
 refine key.trans ?_;cases(List.range w.1.length).any (Xx w) <;> rfl
theorem H0t(w:x9)(n:Int)(hw:wf l6 w):A0p w n=some (X0 w n):=by
 obtain⟨⟨h1,_⟩,⟨h2,_⟩,⟨h3,_⟩,h4,_⟩:=id hw;have e:∀xs:List Int,C5 xs=some (xs.length:Int):=fun _=>rfl;unfold A0p;rw[e,e,e,e]
 repeat rw[vS]
 rw[gP ⟨rfl,trivial⟩,lE,X3,Dz _ _ _ h2,Dz _ _ _ h3,Dz _ _ _ h4]
 repeat rw[vS]
 by_cases hgo:(inB (w.1.length:Int) 1 8&&(w.2.1.length:Int)==(w.1.length:Int)&&(w.2.2.1.length:Int)==(w.1.length:Int))=true
 ·have hg:=hgo;simp only[ba,beq_iff_eq,D1] at hg;rw[H0i w hw (by omega),vS,gP ⟨rfl,fun _=>rfl,fun _=>rfl,fun _=>rfl,fun _=>rfl,fun _=>rfl,fun _=>rfl,fun _=>oo,fun _=>rfl,trivial⟩,lE];refine congrArg some ?_;rw[hgo];unfold X0;rw[decide_eq_true (show 1<=w.1.length by omega),decide_eq_true (show w.1.length<=8 by omega),decide_eq_true (show w.2.1.length=w.1.length by omega),decide_eq_true (show w.2.2.1.length=w.1.length by omega)];cases(List.range w.1.length).any (Xx w) <;> cases w.2.1.all (inB · 0 1000) <;> cases w.2.2.1.all (inB · 0 500) <;> cases(w.2.2.2.length:Int)==n <;> cases w.2.2.2.all (inB · 0 ((w.1.length:Int)-1)) <;> rfl
 ·have hg:(inB (w.1.length:Int) 1 8&&(w.2.1.length:Int)==(w.1.length:Int)&&(w.2.2.1.length:Int)==(w.1.length:Int))=false:=by simpa using hgo
  rw[hg,gP ⟨rfl,fun _=>rfl,fun _=>rfl,fun hc=>by simp at hc,fun hc=>by simp at hc,fun hc=>by simp at hc,fun hc=>by simp at hc,fun hc=>by simp at hc,fun hc=>by simp at hc,trivial⟩,lE];refine congrArg some ?_;rw[hg];simp only[Bool.false_and]
  symm
  rw[<- Bool.not_eq_true];intro hc;unfold X0 at hc;simp only[ba,dq] at hc;refine hgo ?_;simp only[ba,beq_iff_eq,D1];omega
theorem r70(w:x9)(n:Int)(hw:wf l6 w):u70 w n=some (X0 w n):=by
 obtain⟨⟨h1,_⟩,⟨h2,_⟩,⟨h3,_⟩,h4,_⟩:=id hw;unfold u70;by_cases hgo:1<=w.1.length/\w.1.length<=8/\w.2.1.length=w.1.length/\w.2.2.1.length=w.1.length/\(w.2.2.2.length:Int)=n
 ·obtain⟨g1,g2,g3,g4,g5⟩:=hgo;have e0:(decide ((w.1.length:Int)<1)||decide (8 < (w.1.length:Int))||(w.2.1.length:Int) != (w.1.length:Int)||(w.2.2.1.length:Int) != (w.1.length:Int)||(w.2.2.2.length:Int) != n)=false:=by
   rw[<- Bool.not_eq_true]; simp; omega
  refine(if_neg (by rw[e0]; simp)).trans ?_;have k3:=I6 (n:=w.2.2.2.length) h4 (fun i=>!inB (w.2.2.2.getD i 0) 0 ((w.1.length:Int)-1)) (some false) (e:=some true) (F:=A0U w) (fun g i hi=>d0U hi h4 ⟨oo,oo,rfl,trivial⟩) (fun g=>aE);rw[P3 w.2.2.2 0 (fun x=>!inB x 0 ((w.1.length:Int)-1))] at k3;have k1:=I6 (n:=w.1.length) h1 (fun i=>(!inB (w.2.2.1.getD i 0) 0 500||!inB (w.2.1.getD i 0) 0 1000)||Xx w i) (some false) (e:=t0y w ()) (F:=A0V w) (fun g i hi=>by
   have e3:((i:Int)).toNat=i:=rfl;have e0:((i:Int)==0)=(i==0):=by rw[Bool.eq_iff_iff,beq_iff_eq,beq_iff_eq]; omega
   have e2:decide ((0:Int) < (i:Int))=decide (0<i):=by rw[decide_eq_decide]; omega
   refine(if_pos (by simpa using hi)).trans ?_;rw[e3,e0,e2,r97,r97,r97]
   repeat rw[vS]
   rw[gP ⟨oo,rfl,fun _=>oo,fun _=>rfl,trivial⟩,gP ⟨fun _=>oo,fun _=>oo,fun _=>oo,fun _=>oo,fun _=>rfl,trivial⟩,gP ⟨oo,trivial⟩];have e4:(i==0&&(w.1.getD i 0 != -1||w.2.1.getD i 0 != 0)||decide (0<i)&&!inB (w.1.getD i 0) 0 ((i:Int)-1))=Xx w i:=by
    unfold Xx;cases i with
    | zero=>rfl
    | succ i=>rfl
   rw[e4];cases(!inB (w.2.2.1.getD i 0) 0 500||!inB (w.2.1.getD i 0) 0 1000) <;> rfl) (fun g=>aE)
  refine k1.trans ?_;rw[o0O,o0O];have a1:=P3 w.2.2.1 0 (fun x=>!inB x 0 500);have a2:=P3 w.2.1 0 (fun x=>!inB x 0 1000);rw[g4] at a1;rw[g3] at a2;rw[a1,a2];unfold t0y;rw[k3];unfold X0;rw[decide_eq_true g1,decide_eq_true g2,decide_eq_true g3,decide_eq_true g4,beq_iff_eq.2 g5,<- Dq,<- Dq,<- Dq];cases(List.range w.1.length).any (Xx w) <;> cases w.2.1.any (fun x=>!inB x 0 1000) <;> cases w.2.2.1.any (fun x=>!inB x 0 500) <;> cases w.2.2.2.any (fun x=>!inB x 0 ((w.1.length:Int)-1)) <;> rfl
 ·have e0:(decide ((w.1.length:Int)<1)||decide (8 < (w.1.length:Int))||(w.2.1.length:Int) != (w.1.length:Int)||(w.2.2.1.length:Int) != (w.1.length:Int)||(w.2.2.2.length:Int) != n)=true:=by
   rw[<- Bool.not_eq_false];intro hc;simp only[Bool.or_eq_false_iff,decide_eq_false_iff_not,bne_eq_false_iff_eq] at hc;exact hgo ⟨by omega,by omega,by omega,by omega,hc.2⟩
  refine(if_pos e0).trans ?_;refine congrArg some ?_
  symm
  rw[<- Bool.not_eq_true];intro hc;unfold X0 at hc;simp only[ba,dq,beq_iff_eq] at hc;exact hgo ⟨by omega,by omega,by omega,by omega,hc.1.1.1.1.2⟩
theorem r68(d:Y31)(hd:wf y31 d)(h14:d.1.length<=14)(h8:d.2.2.length<=8)(h5:∀i,i<d.1.length->1<=(m6 d i).2.2.length/\(m6 d i).2.2.length<=5):u68 d=some (K4 d.1.length d.2.2.length (m6 d) (A4 d)):=by
 have hi0:=hd.1.1;have hp0:=hd.2.2.1;unfold u68;have k5:∀s:List B2,s.length<=70->q0s d s=some (fN (J0 (A4 d)) d.2.2.length s):=fun s0 hs=>by
  rw[q0s];exact lF (n:=d.2.2.length) hp0 (fun i (s:List B2)=>((i:Int),s)) (J0 (A4 d)) (fun i s=>s.length=s0.length+i) (J:=fun s=>some s) (F:=B0b d) (fun g i s hi hI=>by
   have e3:((i:Int)).toNat=i:=rfl;refine(if_pos (by simpa using hi)).trans ?_;rw[e3,gP ⟨oo,trivial⟩,lE,gP ⟨⟨by show s.length+1<=_; omega,by show(s.length+1)*32<=_; omega⟩,trivial⟩,gP ⟨oo,trivial⟩];rfl) (fun i s hi hI=>by unfold J0; rw[List.length_append,hI]; rfl) (fun g s _=>aE) s0 rfl
 have key:=lF (n:=d.1.length) hi0 (fun i (s:List B2)=>(s,(i:Int))) (N2 (m6 d)) (fun i s=>s.length<=5*i) (J:=q0s d) (F:=B0d d) (fun g i s hi hI=>by
  have e3:((i:Int)).toNat=i:=rfl;have hx:=(h5 i hi).2;have hn:(m6 d i).2.2.length<=9223372036854775807:=by omega
  refine(if_pos (by simpa using hi)).trans ?_;rw[e3,gP ⟨oo,trivial⟩,lE];have inner:=lF (n:=(m6 d i).2.2.length) hn (fun k (s:List B2)=>((k:Int),s)) (J6 (m6 d i) i) (fun k z=>z.length=s.length+k) (J:=y0r (i:Int) g) (F:=B0c (i:Int) (m6 d i) g) (fun g3 k z hk hz=>by
   have e4:((k:Int)).toNat=k:=rfl;refine(if_pos (by simpa using hk)).trans ?_;rw[e4,gP ⟨oo,trivial⟩,gP ⟨oo,⟨by show z.length+1<=_; omega,by show(z.length+1)*32<=_; omega⟩,trivial⟩,lE];exact gP ⟨oo,trivial⟩) (fun k z hk hz=>by unfold J6; rw[List.length_append,hz]; rfl) (fun g3 z _=>aE) s rfl
  refine inner.trans ?_;exact gP ⟨oo,trivial⟩) (fun i s hi hI=>by
  have hx:=(h5 i hi).2;unfold N2;rw[Cz];have hI':s.length<=5*i:=hI;omega) (fun g s _=>aE) [] (Nat.zero_le _)
 refine key.trans (k5 _ ?_);have:=Zw (x:=m6 d) (ni:=d.1.length) (fun i hi=>(h5 i hi).2) d.1.length (Nat.le_refl _);omega
theorem Kv(d:Y31)(hd:wf y31 d)(h14:d.1.length<=14)(h8:d.2.2.length<=8)(h5:∀i,i<d.1.length->1<=(m6 d i).2.2.length/\(m6 d i).2.2.length<=5):V5 d=some (K4 d.1.length d.2.2.length (m6 d) (A4 d)):=by
 have hi0:=hd.1.1;have hp0:=hd.2.2.1;unfold V5;have k5:∀s:List C6,s.length<=70->i0x d s=some (fN (J0 (A4 d)) d.2.2.length s):=fun s0 hs=>by
  rw[i0x];exact lF (n:=d.2.2.length) hp0 (fun i (s:List C6)=>((i:Int),s)) (J0 (A4 d)) (fun i s=>s.length=s0.length+i) (J:=fun s=>some s) (F:=q0X d) (fun g i s hi hI=>by
   have e3:((i:Int)).toNat=i:=rfl;refine(if_pos (by simpa using hi)).trans ?_;rw[e3,gP ⟨oo,oo,⟨by show s.length+1<=_; omega,by show(s.length+1)*32<=_; omega⟩,trivial⟩,lE];exact gP ⟨oo,trivial⟩) (fun i s hi hI=>by unfold J0; rw[List.length_append,hI]; rfl) (fun g s _=>aE) s0 rfl
 have key:=lF (n:=d.1.length) hi0 (fun i (s:List C6)=>((i:Int),s)) (N2 (m6 d)) (fun i s=>s.length<=5*i) (J:=i0x d) (F:=q0Z d) (fun g i s hi hI=>by
  have e3:((i:Int)).toNat=i:=rfl;have hx:=(h5 i hi).2;have hn:(m6 d i).2.2.length<=9223372036854775807:=by omega
  refine(if_pos (by simpa using hi)).trans ?_;rw[e3,gP ⟨oo,trivial⟩,lE];have inner:=lF (n:=(m6 d i).2.2.length) hn (fun k (s:List C6)=>((k:Int),s)) (J6 (m6 d i) i) (fun k z=>z.length=s.length+k) (J:=n0w (i:Int) g) (F:=q0Y (i:Int) (m6 d i) g) (fun g3 k z hk hz=>by
   have e4:((k:Int)).toNat=k:=rfl;refine(if_pos (by simpa using hk)).trans ?_;rw[e4,gP ⟨oo,oo,⟨by show z.length+1<=_; omega,by show(z.length+1)*32<=_; omega⟩,trivial⟩,lE];exact gP ⟨oo,trivial⟩) (fun k z hk hz=>by unfold J6; rw[List.length_append,hz]; rfl) (fun g3 z _=>aE) s rfl
  refine inner.trans ?_;exact gP ⟨oo,trivial⟩) (fun i s hi hI=>by
  have hx:=(h5 i hi).2;unfold N2;rw[Cz];have hI':s.length<=5*i:=hI;omega) (fun g s _=>aE) [] (Nat.zero_le _)
 refine key.trans (k5 _ ?_);have:=Zw (x:=m6 d) (ni:=d.1.length) (fun i hi=>(h5 i hi).2) d.1.length (Nat.le_refl _);omega
abbrev r6(d:Y31):List A6:=K4 d.1.length d.2.2.length (m6 d) (A4 d)
abbrev x5(d:Y31)(i:Nat):A6:=(r6 d).getD i (d6 y105)
abbrev m8(b:Y34)(i:Nat):x9:=b.2.2.getD i (d6 l6)
def A7(b:Y34):Bool:=Fz b.1 b.2.1&&decide (b.2.2.length=b.2.1.2.1.length)&&!(List.range b.2.2.length).any fun i=>!X0 (m8 b i) (P5 (x5 b.2.1) i (r6 b.2.1).length)
structure DF(l:List m4)(d:Y31):Prop where
 lib:Px l=true
 fac:DesignFacts l.length (M3 l) d.1.length d.2.2.length d.2.1.length (m6 d) (A4 d)
 pin:∀i,i<d.1.length->1<=(m6 d i).2.2.length/\(m6 d i).2.2.length<=5
 plc:Zz d.2.1.length (r6 d)
 len:(r6 d).length<=78
theorem Kq{l:List m4}{d:Y31}(h:Fz l d=true):DF l d:=by
 obtain⟨h1,h2⟩:=l0u h;have hp:∀i,i<d.1.length->1<=(m6 d i).2.2.length/\(m6 d i).2.2.length<=5:=fun i hi=>by
  have hin:=h2.inst i hi;have g1:=(Gy hin (fun y hy=>(Hv h1 hy).1)).1;unfold N1 at hin;simp only[ba,beq_iff_eq] at hin;have:=(Hv h1 hin.1.1).2;exact⟨g1,by omega⟩
 have hn:=h2.net;refine⟨h1,h2,hp,Lh hn.2 (Kh hn.1 d.1.length (Nat.le_refl _)) d.2.2.length (Nat.le_refl _),?_⟩;have:=Zw (x:=m6 d) (ni:=d.1.length) (fun i hi=>(hp i hi).2) d.1.length (Nat.le_refl _);have h14:=h2.ni14;have h8:=h2.np8;unfold r6 K4;rw[Cw];omega
theorem r65(b:Y34)(hw:wf y34 b)(hm:cnt y34 b<=1048576):u65 b=some (A7 b):=by
 have hl:=hw.1;have hd:=hw.2.1;have h0:=hw.2.2.1;have mw:b.2.2.length<=1048576:=c0u (cS (cS hm));unfold u65 A7;rw[H0u b.1 b.2.1 hl hd (cF hm) (cF (cS hm)),vS,gP ⟨rfl,trivial⟩];cases hdo:Fz b.1 b.2.1 with
 | false=>exact if_pos rfl
 | true =>
   have df:=Kq hdo;by_cases hlen:b.2.2.length=b.2.1.2.1.length
   ·have e0:((b.2.2.length:Int) != (b.2.1.2.1.length:Int))=false:=by rw[hlen]; simp
    rw[e0,decide_eq_true hlen];refine(if_neg (by simp)).trans ?_;rw[gP (Hy mw (by decide)),Int.toNat_natCast,r68 b.2.1 hd df.fac.ni14 df.fac.np8 df.pin,vS,gP ⟨rfl,trivial⟩,lE];have hpl:(r6 b.2.1).length<=9223372036854775807:=by have:=df.len; omega
    have hin:∀i,i < (r6 b.2.1).length->inB (x5 b.2.1 i).2.2.1 0 ((b.2.2.length:Int)-1)=true:=fun i hi=>by
     rw[hlen]; exact df.plc _ (X1 hi)
    have key:=lF (n:=(r6 b.2.1).length) hpl (fun i (v:List Int)=>((i:Int),v)) (Mx (x5 b.2.1)) (fun i v=>i<=(r6 b.2.1).length/\W9 v b.2.2.length i) (J:=t0C b) (F:=B0i (r6 b.2.1) b) (fun g i v hi hI=>by
     have e3:((i:Int)).toNat=i:=rfl;have j2:∀v',t0B (i:Int) g v'=g (((i+1:Nat):Int),v'):=fun v'=>gP ⟨oo,trivial⟩;refine(if_pos (by simpa using hi)).trans ?_;rw[e3,gP ⟨oo,hi,trivial⟩,lE,j2];show(if(!(x5 b.2.1 i).2.2.2)=true then _ else _)=g (_,Mx (x5 b.2.1) i v);unfold Mx;cases hdr:(x5 b.2.1 i).2.2.2 with
     | true=>rfl
     | false =>
       refine(if_pos rfl).trans ?_;refine(gP (Qw hI.2 (by have:=df.len; omega) (hin i hi))).trans ?_;rw[lE];exact j2 _) (fun i v hi hI=>⟨by omega,by
     unfold Mx;split
     ·exact Yz hI.2 _
     ·exact Dk hI.2 (by omega)⟩) (fun g v _=>aE) (List.replicate b.2.2.length 0) ⟨by omega,Yw _ _⟩
    refine key.trans ?_;obtain⟨s1,s2⟩:=Hh (x5 b.2.1) b.2.2.length (r6 b.2.1).length hin;generalize fN (Mx (x5 b.2.1)) (r6 b.2.1).length (List.replicate b.2.2.length 0)=v at *
    rw[t0C];have key2:=I6 (n:=b.2.2.length) h0 (fun i=>!X0 (m8 b i) (P5 (x5 b.2.1) i (r6 b.2.1).length)) (some false) (e:=some true) (F:=B0h v b) (fun g i hi=>by
     have e3:((i:Int)).toNat=i:=rfl;refine(if_pos (by simpa using hi)).trans ?_;rw[e3,gP ⟨oo,trivial⟩,lE,s2 i hi,H0t _ _ (U6 hi hw.2.2),vS,gP ⟨oo,by omega,rfl,trivial⟩,gP ⟨oo,trivial⟩]) (fun g=>aE)
    refine key2.trans ?_;cases(List.range b.2.2.length).any fun i=>!X0 (m8 b i) (P5 (x5 b.2.1) i (r6 b.2.1).length) <;> rfl
   ·have e0:((b.2.2.length:Int) != (b.2.1.2.1.length:Int))=true:=by simp; omega
    rw[e0,decide_eq_false hlen];exact if_pos rfl
theorem r71(d:Y31)(hd:wf y31 d){l:List m4}(df:DF l d)(t:Int):u71 d t=some (fN (M1 (x5 d) t) (r6 d).length []):=by
 have hl:=df.len;unfold u71;rw[Kv d hd df.fac.ni14 df.fac.np8 df.pin,vS,gP ⟨rfl,trivial⟩,lE];exact lF (n:=(r6 d).length) (by omega) (fun i (s:List Int)=>((i:Int),s)) (M1 (x5 d) t) (fun i s=>s.length<=i) (J:=fun s=>some s) (F:=y0p (r6 d) t) (fun g i s hi hI=>by
  have e3:((i:Int)).toNat=i:=rfl;have j2:∀s',o0Y (i:Int) g s'=g (((i+1:Nat):Int),s'):=fun v'=>gP ⟨oo,trivial⟩;refine(if_pos (by simpa using hi)).trans ?_;have hI':s.length<=i:=hI;rw[e3,gP ⟨oo,hi,fun _=>oo,fun _=>hi,trivial⟩,gP ⟨⟨by show s.length+1<=_; omega,by show(s.length+1)*8<=_; omega⟩,trivial⟩,j2,j2];show _=g (_,M1 (x5 d) t i s);unfold M1;show(if((x5 d i).2.2.1==t&&!(x5 d i).2.2.2)=true then _ else _)=_;split <;> rfl) (fun i s hi hI=>by
  have hI':s.length<=i:=hI;unfold M1;split
  ·rw[List.length_append]; show s.length+1<=i+1; omega
  ·omega) (fun g s _=>aE) [] (Nat.le_refl _)
theorem r23(b:Y34)(hw:wf y34 b)(hm:cnt y34 b<=1048576):u23 b=some (A7 b):=by
 have hl:=hw.1;have hd:=hw.2.1;have h0:=hw.2.2.1;unfold u23 A7;rw[r69 b.1 b.2.1 hl hd (cF (cS hm)),vS,gP ⟨rfl,trivial⟩];cases hdo:Fz b.1 b.2.1 with
 | false=>exact if_pos rfl
 | true =>
   have df:=Kq hdo;by_cases hlen:b.2.2.length=b.2.1.2.1.length
   ·have e0:((b.2.2.length:Int) != (b.2.1.2.1.length:Int))=false:=by rw[hlen]; simp
    rw[e0,decide_eq_true hlen];refine(if_neg (by simp)).trans ?_;have key2:=I6 (n:=b.2.2.length) h0 (fun i=>!X0 (m8 b i) (P5 (x5 b.2.1) i (r6 b.2.1).length)) (some false) (e:=some true) (F:=B0z b) (fun g i hi=>by
     have e3:((i:Int)).toNat=i:=rfl;refine(if_pos (by simpa using hi)).trans ?_;rw[e3,r71 b.2.1 hd df,vS,Dw,r70 _ _ (U6 hi hw.2.2),gP ⟨oo,rfl,rfl,trivial⟩,lE,Dw,r70 _ _ (U6 hi hw.2.2),vS,gP ⟨oo,trivial⟩]) (fun g=>aE)
    refine key2.trans ?_;cases(List.range b.2.2.length).any fun i=>!X0 (m8 b i) (P5 (x5 b.2.1) i (r6 b.2.1).length) <;> rfl
   ·have e0:((b.2.2.length:Int) != (b.2.1.2.1.length:Int))=true:=by simp; omega
    rw[e0,decide_eq_false hlen];exact if_pos rfl
theorem Tq{b:Y34}(h:A7 b=true):Fz b.1 b.2.1=true/\b.2.2.length=b.2.1.2.1.length/\∀i,i<b.2.2.length->X0 (m8 b i) (P5 (x5 b.2.1) i (r6 b.2.1).length)=true:=by
 unfold A7 at h;rw[ba,ba,dq] at h;refine⟨h.1.1,h.1.2,fun i hi=>?_⟩;have:=V9.1 h.2 i hi
 rwa [Bool.not_eq_false'] at this
abbrev A9(d:Y31)(t:Int):List Int:=fN (M1 (x5 d) t) (r6 d).length []
def Hj(l:List m4)(d:Y31)(p:A6):Int:=if p.1<0 then 0 else((l.getD (m6 d p.1.toNat).2.1.toNat (d6 y163)).2.2.1.getD p.2.1.toNat (d6 y217)).2.2.1
theorem Jy{d:Y31}{i:Nat}(h:i < (r6 d).length):x5 d i∈r6 d:=X1 h
theorem Cb{l:List m4}(h:Px l=true){i:Nat}(hi:i<l.length):Jq D3 (O6 l i)=true:=by
 have h:Fx _ _ _=true:=h;unfold Fx at h;rw[ba] at h;have:=V9.1 h.1 i hi;rw[Bool.or_eq_false_iff,Bool.not_eq_false'] at this;exact this.1
theorem Db{l:List m4}{d:Y31}(df:DF l d){p:A6}(hp:p∈r6 d):(p.1 = -1/\0<=p.2.1/\p.2.1.toNat<d.2.2.length) ∨
  (0<=p.1/\p.1.toNat<d.1.length/\0<=(m6 d p.1.toNat).2.1/\(m6 d p.1.toNat).2.1.toNat<l.length/\0<=p.2.1/\p.2.1.toNat < (l.getD (m6 d p.1.toNat).2.1.toNat (d6 y163)).2.2.1.length):=by
 rcases m0k d.1.length d.2.2.length (m6 d) (A4 d) p hp with h | ⟨h1,h2,h3,h4⟩
 ·exact .inl h
 ·have hin:=df.fac.inst p.1.toNat h2;unfold N1 at hin;simp only[ba,beq_iff_eq] at hin;have h5:=D1.1 hin.1.1;have h6:=hin.1.2;refine .inr ⟨h1,h2,h5.1,by omega,h3,?_⟩;have h6:((m6 d p.1.toNat).2.2.length:Int)=((l.getD (m6 d p.1.toNat).2.1.toNat (d6 y163)).2.2.1.length:Int):=h6;omega
theorem y0U{l:List m4}{d:Y31}(df:DF l d){p:A6}(hp:p∈r6 d):0<=Hj l d p/\Hj l d p<=500:=by
 unfold Hj;split
 ·exact⟨by decide,by decide⟩
 ·rename_i hn;rcases Db df hp with h | ⟨h1,h2,h3,h4,h5,h6⟩
  ·omega
  ·have hc:O4 D3 _ _ _ _ _ _ _ _ _=true:=Cb df.lib h4;unfold O4 Y1 at hc;simp only[ba] at hc;have:=V9.1 hc.1.1.1.1.2.2 p.2.1.toNat h6;rw[Bool.not_eq_false'] at this;unfold Fq at this;rw[ba] at this;exact D1.1 this.1
theorem Lv{d:Y31}{t:Int}{k:Nat}(h:k < (A9 d t).length):0<=(A9 d t).getD k 0/\((A9 d t).getD k 0).toNat < (r6 d).length:=by
 obtain⟨j,h1,h2,_⟩:=Kk (x5 d) t (r6 d).length _ (X1 (d:=0) h);rw[h1];exact⟨Int.natCast_nonneg _,by simpa using h2⟩
structure NetOk(b:Y34)(i:Nat):Prop where
 df:DF b.1 b.2.1
 lt:i<b.2.2.length
 wf:l0L (m8 b i) ((A9 b.2.1 i).length:Int)
theorem Rw{b:Y34}(h:A7 b=true){i:Nat}(hi:i<b.2.2.length):NetOk b i:=by
 obtain⟨h1,h2,h3⟩:=Tq h;refine⟨Kq h1,hi,?_⟩;rw[Dw];exact o0V (h3 i hi)
def X4(b:Y34)(i k:Nat):Int:=(m8 b i).2.2.2.getD k 0
def Uq(b:Y34)(i k:Nat):Int:=Hj b.1 b.2.1 (x5 b.2.1 ((A9 b.2.1 i).getD k 0).toNat)
def Y4(b:Y34)(i k:Nat):Int:=(m8 b i).1.getD k 0
def Qx(b:Y34)(i k:Nat):Int:=(m8 b i).2.1.getD k 0
def D5(b:Y34)(i:Nat):List Int:=C0s (m8 b i).2.2.1 (m8 b i).1.length (A9 b.2.1 i).length (X4 b i) (Uq b i) (Y4 b i)
theorem NetOk.sn{b:Y34}{i:Nat}(h:NetOk b i):(m8 b i).2.2.2.length=(A9 b.2.1 i).length:=by have:=h.wf.snk; omega
theorem NetOk.s78{b:Y34}{i:Nat}(h:NetOk b i):(A9 b.2.1 i).length<=78:=by
 have h1:=h.df.len;have h2:=Fh (x5 b.2.1) i (r6 b.2.1).length;have h3:=Dw (x5 b.2.1) i (r6 b.2.1).length;have h4:((A9 b.2.1 i).length:Int)=P5 (x5 b.2.1) i (r6 b.2.1).length:=h3;omega
theorem NetOk.capIn{b:Y34}{i:Nat}(h:NetOk b i){k:Nat}(hk:k < (A9 b.2.1 i).length):0<=X4 b i k/\(X4 b i k).toNat < (m8 b i).1.length/\0<=Uq b i k/\Uq b i k<=500:=by
 have h1:=h.wf.snkIn k (by rw[h.sn]; exact hk);have h2:=y0U h.df (Jy (Lv hk).2);exact⟨h1.1,h1.2,h2.1,h2.2⟩
theorem NetOk.low{b:Y34}{i:Nat}(h:NetOk b i):∀m,m<=(A9 b.2.1 i).length->Low (fN (Vx (X4 b i) (Uq b i)) m (m8 b i).2.2.1) (m8 b i).1.length (500*((m8 b i).1.length:Int)+500*(m:Int)):=fun m hm=>Qh (z0j h.wf.cap h.wf.capOk) m (fun k hk=>h.capIn (by omega))
theorem NetOk.pull{b:Y34}{i:Nat}(h:NetOk b i):∀k,k<=(m8 b i).1.length-1->D0b (fN (Y2 (Y4 b i) (m8 b i).1.length) k (fN (Vx (X4 b i) (Uq b i)) (A9 b.2.1 i).length (m8 b i).2.2.1)) (m8 b i).1.length k 43000:=by
 have h1:=h.low _ (Nat.le_refl _);have h2:=h.s78;have h3:=h.wf.n8;have h4:Low (fN (Vx (X4 b i) (Uq b i)) (A9 b.2.1 i).length (m8 b i).2.2.1) (m8 b i).1.length 43000:=⟨h1.len,h1.pos,by have:=h1.sum; omega⟩;exact Sh h4 (by decide) (fun k h0 hk=>h.wf.par k h0 hk)
theorem NetOk.loads{b:Y34}{i:Nat}(h:NetOk b i):(D5 b i).length=(m8 b i).1.length/\∀j,0<=(D5 b i).getD j 0/\(D5 b i).getD j 0<=43000:=by
 have:=h.pull _ (Nat.le_refl _);exact⟨this.len,fun j=>⟨this.pos j,this.bd j⟩⟩
abbrev y6(b:Y34)(i:Nat):m4:=b.1.getD (m6 b.2.1 i).2.1.toNat (d6 y163)
theorem Gz{b:Y34}(df:DF b.1 b.2.1){i:Nat}(hi:i<b.2.1.1.length):ix (m6 b.2.1 i).2.1 b.1.length/\Jq D3 (y6 b i)=true/\(m6 b.2.1 i).2.2.length=(y6 b i).2.2.1.length:=by
 have:=df.fac.inst i hi;unfold N1 at this;rw[ba,ba,beq_iff_eq] at this;have h1:=D1.1 this.1.1;have h2:=this.1.2;have h3:((m6 b.2.1 i).2.2.length:Int)=((y6 b i).2.2.1.length:Int):=h2;exact⟨⟨h1.1,by omega⟩,Cb df.lib (by omega),by omega⟩
theorem Hz{c:m4}(h:Jq D3 c=true):2<=c.2.2.1.length/\c.2.2.1.length<=5/\c.2.2.2.1.length<=8/\∀j,j<c.2.2.2.1.length->0<=(m5 c j).2.1/\(m5 c j).2.1 < (c.2.2.1.length:Int)-1/\0<=(m5 c j).2.2.1/\(m5 c j).2.2.1 < (c.2.2.1.length:Int):=by
 have h:O4 D3 _ _ _ _ _ _ _ _ _=true:=h;unfold O4 Az at h;simp only[ba,dq] at h;have hp:=Vz h.1.1.1.1.2;refine⟨hp.1,hp.2.1,h.1.1.1.2.1,fun j hj=>?_⟩;have:=V9.1 h.1.1.1.2.2 j hj;rw[Bool.or_eq_false_iff,Bool.not_eq_false'] at this;have ha:=this.1;unfold D3 at ha;rw[ba,ba] at ha;have h1:=D1.1 ha.1.1;have h2:=D1.1 ha.1.2;omega
theorem H0f(l:List m4)(d:Y31)(df:DF l d){p:A6}(hp:p∈r6 d):y0E d l p=some (Hj l d p):=by
 unfold y0E Hj;rcases Db df hp with h | ⟨h1,h2,h3,h4,h5,h6⟩
 ·rw[if_pos (by rw[h.1]; decide),if_pos (by omega)]
 ·refine(if_neg (by simp; omega)).trans ?_;rw[if_neg (by omega),gP ⟨oo,⟨h3,by show(m6 d p.1.toNat).2.1<_; omega⟩,⟨h5,by show p.2.1 < (((l.getD (m6 d p.1.toNat).2.1.toNat (d6 y163)).2.2.1.length:Nat):Int); omega⟩,trivial⟩];rfl
theorem H0g(d:Y31)(hd:wf y31 d){l:List m4}(df:DF l d)(t:Int):B0I d t=some (A9 d t):=by
 have hl:=df.len;unfold B0I;rw[r68 d hd df.fac.ni14 df.fac.np8 df.pin,vS,gP ⟨rfl,trivial⟩,lE];exact lF (n:=(r6 d).length) (by omega) (fun i (s:List Int)=>(s,(i:Int))) (M1 (x5 d) t) (fun i s=>s.length<=i) (J:=fun s=>some s) (F:=w0u t (r6 d)) (fun g i s hi hI=>by
  have e3:((i:Int)).toNat=i:=rfl;have j2:∀s',n0l (i:Int) g s'=g (s',((i+1:Nat):Int)):=fun v'=>gP ⟨oo,trivial⟩;refine(if_pos (by simpa using hi)).trans ?_;have hI':s.length<=i:=hI;rw[e3,gP ⟨oo,hi,trivial⟩,lE,gP ⟨⟨by show s.length+1<=_; omega,by show(s.length+1)*8<=_; omega⟩,trivial⟩,j2,j2];show _=g (M1 (x5 d) t i s,_);unfold M1;show(if((x5 d i).2.2.1==t&&!(x5 d i).2.2.2)=true then _ else _)=_;split <;> rfl) (fun i s hi hI=>by
  have hI':s.length<=i:=hI;unfold M1;split
  ·rw[List.length_append]; show s.length+1<=i+1; omega
  ·omega) (fun g s _=>aE) [] (Nat.le_refl _)
theorem Fb(xs:List Int)(h:xs.length<=1048576):w0T xs=some xs:=gP ⟨oo,trivial⟩
theorem Gb(b:Y34)(hw:wf y34 b){i:Nat}(h:NetOk b i):q0T b (i:Int)=some (D5 b i):=by
 have hd:=hw.2.1;have df:=h.df;have hb:=hw.2.2.1;have hi:=h.lt;have n1:=h.wf.n1;have n8:=h.wf.n8;have hsn:=h.sn;have hs:=h.s78;have hcl:=h.wf.cap;unfold q0T;have e3:((i:Int)).toNat=i:=rfl;rw[gP ⟨oo,trivial⟩,lE,e3,Fb _ (by show(m8 b i).2.2.1.length<=_; omega),vS,gP ⟨rfl,trivial⟩,lE,r68 b.2.1 hd df.fac.ni14 df.fac.np8 df.pin,vS,gP ⟨rfl,trivial⟩,lE,H0g b.2.1 hd df,vS,gP ⟨rfl,trivial⟩,lE];have key:=lF (n:=(A9 b.2.1 i).length) (by omega) (fun k (s:List Int)=>((k:Int),s)) (Vx (X4 b i) (Uq b i)) (fun k v=>Low v (m8 b i).1.length (500*((m8 b i).1.length:Int)+500*(k:Int))) (J:=n0t (m8 b i)) (F:=x0j b (r6 b.2.1) (A9 b.2.1 i) (m8 b i)) (fun g k v hk hI=>by
  have e4:((k:Int)).toNat=k:=rfl;obtain⟨c1,c2,c3,c4⟩:=h.capIn hk;obtain⟨c5,c6⟩:=Lv hk;have hv:=hI.bd (by omega) (X4 b i k).toNat;have c1':0<=(m8 b i).2.2.2.getD k 0:=c1;have c2':((m8 b i).2.2.2.getD k 0).toNat<v.length:=by rw[hI.len]; exact c2
  refine(if_pos (by simpa using hk)).trans ?_;rw[e4,gP ⟨oo,hk,trivial⟩,H0f b.1 b.2.1 df (Jy c6),vS];rw[gP ⟨oo,⟨c1',by omega⟩,c2',⟨c5,by omega⟩,c6,rfl,⟨by show _<=v.getD (X4 b i k).toNat 0+Uq b i k; omega,by show v.getD (X4 b i k).toNat 0+Uq b i k<=_; omega⟩,⟨c1',by omega⟩,c2',trivial⟩,lE];exact gP ⟨oo,trivial⟩) (fun k v hk hI=>by
  obtain⟨c1,c2,c3,c4⟩:=h.capIn hk;have:=hI.add c2 c3;refine⟨this.len,this.pos,Int.le_trans this.sum ?_⟩;rw[Int.natCast_add,Int.mul_add];simp only[Int.natCast_one];omega) (fun g s _=>aE) (m8 b i).2.2.1 (by
  have:=h.low 0 (Nat.zero_le _);exact this)
 refine key.trans ?_;have hl0:=(h.low _ (Nat.le_refl _)).len;have hp0:=h.pull 0 (Nat.zero_le _);have hL:D5 b i=fN (Y2 (Y4 b i) (m8 b i).1.length) ((m8 b i).1.length-1) (fN (Vx (X4 b i) (Uq b i)) (A9 b.2.1 i).length (m8 b i).2.2.1):=rfl;rw[hL];have hpl:=h.pull;generalize fN (Vx (X4 b i) (Uq b i)) (A9 b.2.1 i).length (m8 b i).2.2.1=v0 at hl0 hp0 hpl ⊢;rw[n0t,hl0,gP ⟨oo,trivial⟩];have e5:(((m8 b i).1.length:Int)-1,v0)=(fun(k:Nat) (s:List Int)=>(((m8 b i).1.length:Int)-1-(k:Int),s)) 0 v0:=by simp
 rw[e5];exact lF (n:=(m8 b i).1.length-1) (by omega) (fun(k:Nat) (s:List Int)=>(((m8 b i).1.length:Int)-1-(k:Int),s)) (Y2 (Y4 b i) (m8 b i).1.length) (fun k v=>D0b v (m8 b i).1.length k 43000) (J:=fun s=>some s) (F:=i0w (m8 b i)) (fun g k v hk hI=>by
  have hp:=h.wf.par ((m8 b i).1.length-1-k) (by omega) (by omega);have hp':0<=(m8 b i).1.getD ((m8 b i).1.length-1-k) 0/\((m8 b i).1.getD ((m8 b i).1.length-1-k) 0).toNat < (m8 b i).1.length-1-k:=hp;have hlen:=hI.len;have e6:((m8 b i).1.length:Int)-1-(k:Int)=(((m8 b i).1.length-1-k:Nat):Int):=by omega
  have e7:((((m8 b i).1.length-1-k:Nat):Int)).toNat=(m8 b i).1.length-1-k:=rfl;have b1:=hI.pos ((m8 b i).1.getD ((m8 b i).1.length-1-k) 0).toNat;have b2:=hI.bd ((m8 b i).1.getD ((m8 b i).1.length-1-k) 0).toNat;have b3:=hI.pos ((m8 b i).1.length-1-k);have b4:=hI.bd ((m8 b i).1.length-1-k);have e8:((m8 b i).1.length:Int)-1-((k+1:Nat):Int)=(((m8 b i).1.length-1-k:Nat):Int)-1:=by omega
  show i0w (m8 b i) g (((m8 b i).1.length:Int)-1-(k:Int),v)=g (((m8 b i).1.length:Int)-1-((k+1:Nat):Int),Y2 (Y4 b i) (m8 b i).1.length k v);rw[e8,e6];refine(if_pos (decide_eq_true (by omega))).trans ?_;rw[e7,gP ⟨oo,⟨hp'.1,by omega⟩,by omega,oo,by omega,oo,⟨hp'.1,by omega⟩,by omega,trivial⟩,lE];exact gP ⟨oo,trivial⟩) (fun k v hk hI=>Rh hI hk (h.wf.par _ (by omega) (by omega))) (fun g s _=>by
  have e9:((m8 b i).1.length:Int)-1-(((m8 b i).1.length-1:Nat):Int)=0:=by omega
  show i0w (m8 b i) g (((m8 b i).1.length:Int)-1-(((m8 b i).1.length-1:Nat):Int),s)=some s;rw[e9];have:i0w (m8 b i) g (0,s)=q0S s:=by
   rw[i0w];exact if_neg (by decide)
  exact this.trans rfl) v0 hp0
def Jz(b:Y34)(i:Nat):List Int:=z0F (m8 b i).1.length (Y4 b i) (Qx b i) (fun k=>(D5 b i).getD k 0)
def Vq(b:Y34)(i:Nat):List Int:=fN (exF (Jz b i) (X4 b i)) (A9 b.2.1 i).length []
theorem NetOk.del{b:Y34}{i:Nat}(h:NetOk b i):∀k,k<=(m8 b i).1.length-1->(fN (R7 (Y4 b i) (Qx b i) (fun k=>(D5 b i).getD k 0)) k [0]).length=k+1/\∀j,0<=(fN (R7 (Y4 b i) (Qx b i) (fun k=>(D5 b i).getD k 0)) k [0]).getD j 0/\(fN (R7 (Y4 b i) (Qx b i) (fun k=>(D5 b i).getD k 0)) k [0]).getD j 0<=1000*43000*(k:Int) :=
 Th (n:=(m8 b i).1.length) (fun k hk=>h.wf.resIn k hk) (fun k _=>h.loads.2 k) (by decide)
theorem NetOk.delays{b:Y34}{i:Nat}(h:NetOk b i):(Jz b i).length=(m8 b i).1.length/\∀j,0<=(Jz b i).getD j 0/\(Jz b i).getD j 0<=301000000:=by
 have h1:=h.del _ (Nat.le_refl _);have n1:=h.wf.n1;have n8:=h.wf.n8;refine⟨h1.1.trans (by omega),fun j=>⟨(h1.2 j).1,Int.le_trans (h1.2 j).2 (by omega)⟩⟩
theorem H0e(b:Y34)(hw:wf y34 b){i:Nat}(h:NetOk b i):B0H b (i:Int)=some (Jz b i):=by
 have hi:=h.lt;have hb:=hw.2.2.1;have n1:=h.wf.n1;have n8:=h.wf.n8;have hr:=h.wf.res;obtain⟨ll,lb⟩:=h.loads;have e3:((i:Int)).toNat=i:=rfl;unfold B0H;rw[Gb b hw h,vS,gP ⟨oo,rfl,trivial⟩,lE,e3];show gd ((0<=((D5 b i).length:Int)/\((D5 b i).length:Int)=((D5 b i).length:Int)/\((D5 b i).length:Int).toNat*8<=281474976710656/\((D5 b i).length:Int)<=9223372036854775807)/\True) (lp (k0n (m8 b i) (D5 b i)) (1,List.replicate ((D5 b i).length:Int).toNat 0))=_;rw[ll,gP ⟨⟨by omega,rfl,by omega,by omega⟩,trivial⟩];have e5:((1:Int),List.replicate ((m8 b i).1.length:Int).toNat (0:Int))=(fun(k:Nat) (s:List Int)=>(((k+1:Nat):Int),s++List.replicate ((m8 b i).1.length-1-k) 0)) 0 [0]:=by
  show((1:Int),List.replicate (m8 b i).1.length (0:Int))=_;have:(m8 b i).1.length=((m8 b i).1.length-1)+1:=by omega
  rw[this,List.replicate_succ];rfl
 rw[e5];refine(lF (n:=(m8 b i).1.length-1) (by omega) (fun(k:Nat) (s:List Int)=>(((k+1:Nat):Int),s++List.replicate ((m8 b i).1.length-1-k) 0)) (R7 (Y4 b i) (Qx b i) (fun k=>(D5 b i).getD k 0)) (fun k s=>s.length=k+1/\∀j,0<=s.getD j 0/\s.getD j 0<=1000*43000*(k:Int)) (J:=fun s=>some s) (F:=k0n (m8 b i) (D5 b i)) (fun g k s hk hI=>?_) (fun k s hk hI=>?_) (fun g s hI=>?_) [0] ?_)
 ·obtain⟨hl,hs⟩:=hI;have hp:=h.wf.par (k+1) (by omega) (by omega);have hfl:(s++List.replicate ((m8 b i).1.length-1-k) (0:Int)).length=(m8 b i).1.length:=by rw[List.length_append,List.length_replicate]; omega
  have e4:(((k+1:Nat):Int)).toNat=k+1:=rfl;have hg:=v0t (n:=(m8 b i).1.length) hl hp.2;have r1:=h.wf.resIn (k+1) (by omega);have l1:=lb (k+1);have hm:=Jk r1.1 r1.2 l1.1 l1.2;have hs1:=hs ((m8 b i).1.getD (k+1) 0).toNat;show k0n (m8 b i) (D5 b i) g (((k+1:Nat):Int),s++List.replicate ((m8 b i).1.length-1-k) 0)=g (((k+1+1:Nat):Int),R7 (Y4 b i) (Qx b i) (fun k=>(D5 b i).getD k 0) k s++List.replicate ((m8 b i).1.length-1-(k+1)) 0);have e6:R7 (Y4 b i) (Qx b i) (fun k=>(D5 b i).getD k 0) k s++List.replicate ((m8 b i).1.length-1-(k+1)) 0=(s++List.replicate ((m8 b i).1.length-1-k) 0).set (k+1) (s.getD ((m8 b i).1.getD (k+1) 0).toNat 0+(m8 b i).2.1.getD (k+1) 0*(D5 b i).getD (k+1) 0):=(v0s hl (by omega)).symm;rw[e6,<- hg];generalize s++List.replicate ((m8 b i).1.length-1-k) (0:Int)=v at hfl hg ⊢;refine(if_pos (by simp; omega)).trans ?_;rw[e4,gP ⟨oo,⟨hp.1,by omega⟩,by omega,oo,oo,by omega,oo,oo,oo,by omega,trivial⟩,lE];exact gP ⟨oo,trivial⟩
 ·obtain⟨hl,hs⟩:=hI;have r1:=h.wf.resIn (k+1) (by omega);have l1:=lb (k+1);have hm:=Jk r1.1 r1.2 l1.1 l1.2;have hs1:=hs (Y4 b i (k+1)).toNat;unfold R7;refine⟨by rw[List.length_append,hl]; rfl,fun j=>?_⟩;have hm:0<=Qx b i (k+1)*(D5 b i).getD (k+1) 0/\Qx b i (k+1)*(D5 b i).getD (k+1) 0<=1000*43000:=hm;rcases Nat.lt_or_ge j s.length with hj | hj
  ·have:=hs j;rw[Wx hj]; omega
  ·rw[Fw hj];cases hjs:j-s.length with
   | zero=>simp only[List.getD_cons_zero]; omega
   | succ q=>simp only[List.getD_cons_succ,List.getD_nil]; omega
 ·have e9:(m8 b i).1.length-1-((m8 b i).1.length-1)=0:=by omega
  show k0n (m8 b i) (D5 b i) g ((((m8 b i).1.length-1+1:Nat):Int),s++List.replicate ((m8 b i).1.length-1-((m8 b i).1.length-1)) 0)=some s;rw[e9,List.replicate_zero,List.append_nil,<- hI.1];exact aE
 ·exact h.del 0 (Nat.zero_le _)
theorem H0r(b:Y34)(hw:wf y34 b){i:Nat}(h:NetOk b i):x0i b (i:Int)=some (Vq b i):=by
 have hi:=h.lt;have hb:=hw.2.2.1;have hsn:=h.sn;have hs:=h.s78;obtain⟨dl,db⟩:=h.delays;have e3:((i:Int)).toNat=i:=rfl;unfold x0i;rw[H0e b hw h,vS,gP ⟨rfl,trivial⟩,lE,gP ⟨oo,trivial⟩,lE,e3];unfold Vq;rw[<- hsn];exact lF (n:=(m8 b i).2.2.2.length) (by omega) (fun(k:Nat) (s:List Int)=>(s,(k:Int))) (exF (Jz b i) (X4 b i)) (fun k s=>s.length=k) (J:=fun s=>some s) (F:=x0g (Jz b i) (m8 b i)) (fun g k s hk hI=>by
  have e4:((k:Int)).toNat=k:=rfl;have h1:=h.wf.snkIn k hk;have hI:s.length=k:=hI;refine(if_pos (by simpa using hk)).trans ?_;rw[e4,gP ⟨oo,trivial⟩,gP ⟨⟨h1.1,by omega⟩,by omega,⟨by show s.length+1<=_; omega,by show(s.length+1)*8<=_; omega⟩,trivial⟩,lE];exact gP ⟨oo,trivial⟩) (fun k s hk hI=>by
  have hI:s.length=k:=hI;unfold exF;rw[List.length_append,hI]; rfl) (fun g s _=>aE) [] rfl
theorem H0h(a:A5):B0J a=some (K5 a.1 a.2.2.2.1):=by
 unfold B0J K5;split
 ·rfl
 split
 ·rfl
 split
 ·rfl
 split
 ·rfl
 split
 ·rfl
 ·rfl
theorem H0s(b:Y34)(df:DF b.1 b.2.1){i:Nat}(hi:i<b.2.1.1.length)(f:Int)(h0:0<=f)(h1:f<=1000):x0l b (m6 b.2.1 i) f=some (Y3 f (m5 (y6 b i)) (y6 b i).2.2.2.1.length):=by
 obtain⟨x1,x2,x3⟩:=Gz df hi;obtain⟨c1,c2,c3,c4⟩:=Hz x2;unfold x0l;rw[gP ⟨x1,trivial⟩,lE];show lp (q0V f (y6 b i)) ([],0)=_;generalize y6 b i=c at c1 c2 c3 c4;refine lF (n:=c.2.2.2.1.length) (by omega) (fun(j:Nat) (s:List x7)=>(s,(j:Int))) (O5 f (m5 c)) (fun j s=>s.length<=4*j) (J:=fun s=>some s) (F:=q0V f c) (fun g j s hj hI=>?_) (fun j s hj hI=>?_) (fun g s _=>aE) [] (Nat.le_refl _)
 ·have e4:((j:Int)).toNat=j:=rfl;obtain⟨a1,a2,a3,a4⟩:=c4 j hj;have hI:s.length<=4*j:=hI;refine(if_pos (by simpa using hj)).trans ?_;rw[e4,gP ⟨oo,trivial⟩,lE,H0h,vS,gP ⟨rfl,trivial⟩,lE];show lp (q0U f (m5 c j) (j:Int) (K5 (m5 c j).1 (m5 c j).2.2.2.1) g) (0,s)=g (O5 f (m5 c) j s,_);obtain⟨t1,t2⟩:=Lk (m5 c j).1 (m5 c j).2.2.2.1;have ec:O5 f (m5 c) j s=fN (P6 f (m5 c j).2.1 (m5 c j).2.2.1 (j:Int) (K5 (m5 c j).1 (m5 c j).2.2.2.1)) (K5 (m5 c j).1 (m5 c j).2.2.2.1).length s:=rfl;rw[ec];generalize K5 (m5 c j).1 (m5 c j).2.2.2.1=tr at t1 t2;generalize m5 c j=a at a1 a2 a3 a4;refine(lF (n:=tr.length) (by omega) (fun(k:Nat) (s:List x7)=>((k:Int),s)) (P6 f a.2.1 a.2.2.1 (j:Int) tr) (fun k z=>z.length=s.length+k) (J:=fun z=>q0W (j:Int) g z) (F:=q0U f a (j:Int) tr g) (fun g3 k z hk hz=>?_) (fun k z hk hz=>?_) (fun g3 z _=>aE) s rfl).trans ?_
  ·have e5:((k:Int)).toNat=k:=rfl;have ht:=t2 _ (X1 (d:=((0,0):Int×Int)) hk);have hz:z.length=s.length+k:=hz;refine(if_pos (by simpa using hk)).trans ?_;rw[e5,gP ⟨oo,hk,trivial⟩,lE];show gd _ _=_;rw[gP ⟨oo,oo,oo,⟨by show _<=2*(f+a.2.1)+(tr.getD k (0,0)).1; omega,by show 2*(f+a.2.1)+(tr.getD k (0,0)).1<=_; omega⟩,oo,oo,oo,⟨by show _<=2*(f+a.2.2.1)+(tr.getD k (0,0)).2; omega,by show 2*(f+a.2.2.1)+(tr.getD k (0,0)).2<=_; omega⟩,⟨by show z.length+1<=_; omega,by show(z.length+1)*32<=_; omega⟩,trivial⟩,lE];exact gP ⟨oo,trivial⟩
  ·have hz:z.length=s.length+k:=hz;unfold P6;rw[List.length_append,hz]; rfl
  ·exact gP ⟨oo,trivial⟩
 ·have hI:s.length<=4*j:=hI;have:=Nk f (m5 c) j s;show _<=4*(j+1);omega
def Mq(b:Y34)(i:Nat)(s:Int×List x7):Int×List x7:=R9 (fun i=>(m6 b.2.1 i).2.2.length) (fun i=>m5 (y6 b i)) (fun i=>(y6 b i).2.2.2.1.length) i s
def J1(b:Y34)(i:Nat):Int:=P7 (x5 b.2.1) i (r6 b.2.1).length
def Jj(b:Y34):List x7:=(fN (Mq b) b.2.1.1.length (0,[])).2
def lV(b:Y34):List x7:=fN (Hq (J1 b) (fun i=>A9 b.2.1 i)) b.2.2.length (Jj b)
def Hb(b:Y34):List Int:=fN (N3 fun i=>(D5 b i).getD 0 0) b.2.2.length []
def Jb(b:Y34):List (List Int):=fN (N3 fun i=>Vq b i) b.2.2.length []
def r5(b:Y34):y9:=(b,r6 b.2.1,lV b,Hb b,Jb b,[])
theorem Ky{b:Y34}(df:DF b.1 b.2.1)(m:Nat)(hm:m<=b.2.1.1.length):0<=(fN (Mq b) m (0,[])).1/\(fN (Mq b) m (0,[])).1<=5*(m:Int)/\(fN (Mq b) m (0,[])).2.length<=32*m :=
 Yh (n:=b.2.1.1.length) (fun i hi=>⟨(df.pin i hi).2,(Hz (Gz df hi).2.1).2.2.1⟩) m hm
def Mv(b:Y34)(i:Nat)(s:List Int×List (List Int)×List x7):List Int×List (List Int)×List x7:=(s.1++[(D5 b i).getD 0 0],s.2.1++[Vq b i],Hq (J1 b) (fun i=>A9 b.2.1 i) i s.2.2)
theorem Kb(b:Y34)(z:List x7):∀m,fN (Mv b) m ([],[],z)=(fN (N3 fun i=>(D5 b i).getD 0 0) m [],fN (N3 fun i=>Vq b i) m [],fN (Hq (J1 b) (fun i=>A9 b.2.1 i)) m z)
 | 0=>rfl
 | m+1=>by
   show Mv b m (fN (Mv b) m ([],[],z))=_;rw[Kb b z m]; rfl
theorem r66(b:Y34)(hw:wf y34 b)(hb:A7 b=true):u66 b=some (r5 b):=by
 obtain⟨hd0,hlen,hwire⟩:=Tq hb;have df:=Kq hd0;have hd:=hw.2.1;have h14:=df.fac.ni14;have h30:=df.fac.nn30;have hpl:=df.len;have hin:b.2.1.1.length<=9223372036854775807:=by omega
 have eN:∀l,C5 l=some (l.length:Int):=fun _=>rfl;unfold u66;rw[r68 b.2.1 hd df.fac.ni14 df.fac.np8 df.pin,vS,gP ⟨rfl,trivial⟩,lE];refine(lF (n:=b.2.1.1.length) hin (fun(i:Nat) (s:Int×List x7)=>(s.1,(i:Int),s.2)) (Mq b) (fun i s=>0<=s.1/\s.1<=5*(i:Int)/\s.2.length<=32*i) (J:=fun s=>q0t (r6 b.2.1) b s.2) (F:=B0f b (r6 b.2.1)) (fun g i s hi hI=>?_) (fun i s hi hI=>?_) (fun g s _=>aE) (0,[]) ⟨Int.le_refl _,Int.le_refl _,Nat.le_refl _⟩).trans ?_
 ·have e3:((i:Int)).toNat=i:=rfl;obtain⟨f,z⟩:=s;obtain⟨i1,i2,i3⟩:=hI;have i1:0<=f:=i1;have i2:f<=5*(i:Int):=i2;have i3:z.length<=32*i:=i3;have hp:=df.pin i hi;have hcl:=Gw f (m5 (y6 b i)) (y6 b i).2.2.2.1.length;have hc8:=(Hz (Gz df hi).2.1).2.2.1;refine(if_pos (by simpa using hi)).trans ?_;rw[e3,gP ⟨oo,trivial⟩,lE];show gd ((x0l b (m6 b.2.1 i) f).isSome=true/\_/\True) _=_;rw[H0s b df hi f i1 (by omega),vS,gP ⟨rfl,oo,trivial⟩,lE];show gd ((C5 (m6 b.2.1 i).2.2).isSome=true/\l3 (f+vl (C5 (m6 b.2.1 i).2.2))/\True) _=_;rw[eN,vS,gP ⟨rfl,oo,trivial⟩,lE];exact gP ⟨oo,trivial⟩
 ·obtain⟨f,z⟩:=s;obtain⟨i1,i2,i3⟩:=hI;have i1:0<=f:=i1;have i2:f<=5*(i:Int):=i2;have i3:z.length<=32*i:=i3;have hp:=df.pin i hi;have hcl:=Gw f (m5 (y6 b i)) (y6 b i).2.2.2.1.length;have hc8:=(Hz (Gz df hi).2.1).2.2.1;refine⟨by show 0<=f+((m6 b.2.1 i).2.2.length:Int); omega,by show f+((m6 b.2.1 i).2.2.length:Int)<=_; omega,?_⟩;show(z++Y3 f (m5 (y6 b i)) (y6 b i).2.2.2.1.length).length<=_;rw[List.length_append]; omega
 have hz:=(Ky df _ (Nat.le_refl _)).2.2;have ecl:Jj b=(fN (Mq b) b.2.1.1.length (0,[])).2:=rfl;unfold r5 lV Hb Jb;rw[ecl];generalize (fN (Mq b) b.2.1.1.length (0,[])).2=z at hz;show q0t (r6 b.2.1) b z=_;have hn30:b.2.2.length<=30:=by omega
 rw[q0t,gP ⟨⟨by omega,rfl,by omega,by omega⟩,trivial⟩,gP ⟨⟨by omega,rfl,by omega,by omega⟩,trivial⟩];show lp (y0t (r6 b.2.1) b z) (0,List.replicate b.2.2.length [],List.replicate b.2.2.length 0)=_;have hnet:∀i,i < (r6 b.2.1).length->inB (x5 b.2.1 i).2.2.1 0 ((b.2.2.length:Int)-1)=true:=fun i hi=>by rw[hlen]; exact df.plc _ (Jy hi)
 have gf:=Am (x5 b.2.1) b.2.2.length;refine(lF (n:=(r6 b.2.1).length) (by omega) (fun(i:Nat) (s:List (List Int)×List Int)=>((i:Int),s.1,s.2)) (U4 (x5 b.2.1)) (fun i s=>s.1.length=b.2.2.length/\s.2.length=b.2.2.length/\∀k:Nat,(s.1.getD k []).length<=i) (J:=fun s=>y0w b (r6 b.2.1) z s) (F:=y0t (r6 b.2.1) b z) (fun g i s hi hI=>?_) (fun i s hi hI=>?_) (fun g s _=>aE) (List.replicate b.2.2.length [],List.replicate b.2.2.length 0) ⟨List.length_replicate,List.length_replicate,fun k=>?_⟩).trans ?_
 ·obtain⟨gr,dr⟩:=s;obtain⟨g1,g2,g3⟩:=hI;have g1:gr.length=b.2.2.length:=g1;have g2:dr.length=b.2.2.length:=g2;have g3:∀k:Nat,(gr.getD k []).length<=i:=g3;have hp:=D1.1 (hnet i hi);have e3:((i:Int)).toNat=i:=rfl;have j4:∀x y,t0A (i:Int) g (x,y)=g (((i+1:Nat):Int),y,x):=fun x y=>gP ⟨oo,trivial⟩;have g4:=g3 (x5 b.2.1 i).2.2.1.toNat;refine(if_pos (by simpa using hi)).trans ?_;rw[e3,gP ⟨oo,hi,trivial⟩,lE];show(if(x5 b.2.1 i).2.2.2=true then _ else _)=g (_,(U4 (x5 b.2.1) i (gr,dr)).1,(U4 (x5 b.2.1) i (gr,dr)).2);unfold U4;cases(x5 b.2.1 i).2.2.2 with
  | true =>
    rw[if_pos rfl,if_pos rfl];show gd (ix (x5 b.2.1 i).2.2.1 dr.length/\_/\True) _=_;rw[gP ⟨oo,by show(x5 b.2.1 i).2.2.1.toNat<_; omega,trivial⟩,j4]
  | false =>
    rw[if_neg (by simp),if_neg (by simp)];show gd (ix (x5 b.2.1 i).2.2.1 gr.length/\_) _=_;rw[gP ⟨oo,by show(x5 b.2.1 i).2.2.1.toNat<_; omega,⟨by show(gr.getD (x5 b.2.1 i).2.2.1.toNat []).length+1<=_; omega,by show((gr.getD (x5 b.2.1 i).2.2.1.toNat []).length+1)*8<=_; omega⟩,⟨by show 0<=(x5 b.2.1 i).2.2.1; omega,by show(x5 b.2.1 i).2.2.1<_; omega⟩,⟨by show(x5 b.2.1 i).2.2.1.toNat<_; omega,rfl⟩,trivial⟩,lE,j4]
 ·obtain⟨gr,dr⟩:=s;obtain⟨g1,g2,g3⟩:=hI;have g1:gr.length=b.2.2.length:=g1;have g2:dr.length=b.2.2.length:=g2;have g3:∀k:Nat,(gr.getD k []).length<=i:=g3;have hp:=D1.1 (hnet i hi);unfold U4;split
  ·exact⟨g1,by show(dr.set _ _).length=_; rw[List.length_set]; exact g2,fun k=>by have:=g3 k; show(gr.getD k []).length<=_; omega⟩
  ·refine⟨by show(gr.set _ _).length=_; rw[List.length_set]; exact g1,g2,fun k=>?_⟩;show((gr.set (x5 b.2.1 i).2.2.1.toNat (gr.getD (x5 b.2.1 i).2.2.1.toNat []++[(i:Int)])).getD k []).length<=_;rw[Hw (by omega)];have:=g3 k;have:=g3 (x5 b.2.1 i).2.2.1.toNat;split
   ·rw[List.length_append]; show _+1<=_; omega
   ·omega
 ·show((List.replicate b.2.2.length ([]:List Int)).getD k []).length<=0;rw[gq,List.getElem?_replicate];split <;> exact Nat.le_refl _
 obtain⟨gl,dl,gd'⟩:=gf (r6 b.2.1).length hnet;generalize fN (U4 (x5 b.2.1)) (r6 b.2.1).length (List.replicate b.2.2.length [],List.replicate b.2.2.length 0)=s at gl dl gd';obtain⟨gr,dr⟩:=s;have gl:gr.length=b.2.2.length:=gl;have dl:dr.length=b.2.2.length:=dl;have hgr:∀k:Nat,k<b.2.2.length->gr.getD k []=A9 b.2.1 k:=fun k hk=>(gd' k hk).1;have hdr:∀k:Nat,k<b.2.2.length->dr.getD k 0=J1 b k:=fun k hk=>(gd' k hk).2;show lp (y0s dr gr b (r6 b.2.1)) (0,[],[],z)=_;refine(lF (n:=b.2.2.length) (by omega) (fun(i:Nat) (s:List Int×List (List Int)×List x7)=>((i:Int),s.1,s.2.1,s.2.2)) (Mv b) (fun i s=>s.1.length=i/\s.2.1.length=i/\s.2.2.length<=500+160*i) (J:=fun s=>some (b,r6 b.2.1,s.2.2,s.1,s.2.1,[])) (F:=y0s dr gr b (r6 b.2.1)) (fun g i s hi hI=>?_) (fun i s hi hI=>?_) (fun g s _=>aE) ([],[],z) ⟨rfl,rfl,by show z.length<=_; omega⟩).trans ?_
 ·obtain⟨s1,s2,s3⟩:=s;obtain⟨i1,i2,i3⟩:=hI;have i1:s1.length=i:=i1;have i2:s2.length=i:=i2;have i3:s3.length<=500+160*i:=i3;have hno:=Rw hb hi;have n1:=hno.wf.n1;have hs78:=hno.s78;have hll:=hno.loads.1;have e3:((i:Int)).toNat=i:=rfl;refine(if_pos (by simpa using hi)).trans ?_;rw[Gb b hw hno,vS,gP ⟨rfl,oo,by show 0<_; omega,⟨by show s1.length+1<=_; omega,by show(s1.length+1)*8<=_; omega⟩,trivial⟩,lE,H0r b hw hno,vS,gP ⟨rfl,⟨by show s2.length+1<=_; omega,by show(s2.length+1)*24<=_; omega⟩,trivial⟩,lE,gP ⟨oo,trivial⟩];have hsn:=hgr i hi;have hdn:=hdr i hi;have hdv:=Pk (x5 b.2.1) i (r6 b.2.1).length;have hdv:0<=J1 b i/\J1 b i<=((r6 b.2.1).length:Int):=hdv;show lp (l0X dr (i:Int) gr s2 (Vq b i) s1 (D5 b i) g) (0,s3)=g (_,s1++[(D5 b i).getD 0 0],s2++[Vq b i],Hq (J1 b) (fun i=>A9 b.2.1 i) i s3);refine(lF (n:=(A9 b.2.1 i).length) (by omega) (fun(k:Nat) (s:List x7)=>((k:Int),s)) (Gq (J1 b i) (A9 b.2.1 i)) (fun k y=>y.length=s3.length+2*k) (J:=fun y=>y0v (i:Int) g (s2++[Vq b i],s1++[(D5 b i).getD 0 0],y)) (F:=l0X dr (i:Int) gr s2 (Vq b i) s1 (D5 b i) g) (fun g8 k y hk hy=>?_) (fun k y hk hy=>?_) (fun g8 y _=>?_) s3 rfl).trans ?_
  ·have hy:y.length=s3.length+2*k:=hy;obtain⟨k1,k2⟩:=Lv hk;have e4:((k:Int)).toNat=k:=rfl;show l0X dr (i:Int) gr s2 (Vq b i) s1 (D5 b i) g g8 ((k:Int),y)=_;rw[l0X,e3,hsn,if_pos (by simpa using hk),gP ⟨oo,trivial⟩];show _=g8 (_,Gq (J1 b i) (A9 b.2.1 i) k y);refine(lF (n:=2) (by decide) (fun(t:Nat) (x:List x7)=>((t:Int),x)) (Qk (J1 b i) ((A9 b.2.1 i).getD k 0) (k:Int)) (fun t x=>x.length=y.length+t) (J:=fun x=>y0u (k:Int) g8 x) (F:=i0l dr (i:Int) gr (k:Int) g8) (fun g10 t x ht hx=>?_) (fun t x ht hx=>?_) (fun g10 x _=>?_) y rfl).trans ?_
   ·have hx:x.length=y.length+t:=hx;show i0l dr (i:Int) gr (k:Int) g8 g10 ((t:Int),x)=_;rw[i0l,e3,e4,hsn,hdn,if_pos (decide_eq_true (by omega)),gP ⟨oo,by omega,oo,oo,oo,oo,⟨by show x.length+1<=_; omega,by show(x.length+1)*32<=_; omega⟩,trivial⟩,lE];exact gP ⟨oo,trivial⟩
   ·have hx:x.length=y.length+t:=hx;unfold Qk;rw[List.length_append,hx]; rfl
   ·show i0l dr (i:Int) gr (k:Int) g8 g10 (((2:Nat):Int),x)=_;rw[i0l];exact if_neg (by decide)
   ·exact gP ⟨oo,trivial⟩
  ·have hy:y.length=s3.length+2*k:=hy;rw[Sk,hy]; omega
  ·show l0X dr (i:Int) gr s2 (Vq b i) s1 (D5 b i) g g8 (((A9 b.2.1 i).length:Int),y)=_;rw[l0X,e3,hsn];exact if_neg (by simp)
  ·exact gP ⟨oo,trivial⟩
 ·obtain⟨s1,s2,s3⟩:=s;obtain⟨i1,i2,i3⟩:=hI;have i1:s1.length=i:=i1;have i2:s2.length=i:=i2;have i3:s3.length<=500+160*i:=i3;have hs78:=(Rw hb hi).s78;refine⟨by show(s1++_).length=_; rw[List.length_append,i1]; rfl,by show(s2++_).length=_; rw[List.length_append,i2]; rfl,?_⟩;show(Hq (J1 b) (fun i=>A9 b.2.1 i) i s3).length<=_;unfold Hq;rw[Bv];show s3.length+2*(A9 b.2.1 i).length<=500+160*(i+1);omega
 ·rw[Kb]
end Go.Proofs.YtphnknndgfgepaaGreatDoor
end
