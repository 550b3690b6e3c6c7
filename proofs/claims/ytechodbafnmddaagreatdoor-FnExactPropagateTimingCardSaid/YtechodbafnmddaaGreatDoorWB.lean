/- Wires and places: what the program's functions and the reference's say of them. -/
import Derived.Test.YtechodbafnmddaaGreatDoorWA
import Derived.Test.YtechodbafnmddaaGreatDoorG95
import Derived.Test.YtechodbafnmddaaGreatDoorF95c
set_option maxHeartbeats 0
section
namespace Go.Proofs.YtechodbafnmddaaGreatDoor
open Go Go.Proofs Go.Proofs.Sv Go.Proofs.Xv Go.Proofs.Xl Go.Proofs.Xd
abbrev Oj(w:D0)(i:Nat):Bool:=(i==0&&(w.1.getD i 0 != -1||w.2.1.getD 0 0 != 0))||(decide (0<i)&&!j6 (w.1.getD i 0) 0 ((i:Int)-1))
theorem P0j(w:D0)(f:wf y172 w)(j:w.2.1.length=w.1.length):Dn w=some (!(List.range w.1.length).any (Oj w)):=by
 have h:=f.1.1;have a:=K4 (n:=w.1.length) h (Oj w) (some false) (e:=some true) (F:=A0s w) (fun g i hi=>by
  have b:((i:Int)).toNat=i:=rfl;have d:((i:Int)==0)=(i==0):=by rw[Bool.eq_iff_iff,beq_iff_eq,beq_iff_eq]; omega
  have c:decide ((0:Int) < (i:Int))=decide (0<i):=by rw[decide_eq_decide]; omega
  refine(if_pos (by simpa using hi)).trans ?_;rw[b,d,c,Al,vS,gP ⟨oo,trivial⟩,gP ⟨fun _=>oo,fun _=>oo,fun _=>rfl,trivial⟩,gP ⟨oo,trivial⟩];rfl) (fun g=>aE)
 refine a.trans ?_
 grind
theorem P0w(w:D0)(n:Int)(d:wf y172 w):Nl w n=some (BO w n):=by
 obtain⟨⟨i,_⟩,⟨f,_⟩,⟨g,_⟩,h,_⟩:=id d;have e:∀xs:List Int,F6 xs=some (xs.length:Int):=fun _=>rfl;unfold Nl;rw[e,e,e,e]
 repeat rw[vS]
 rw[gP ⟨rfl,trivial⟩,lE,Al,Im _ _ _ f,Im _ _ _ g,Im _ _ _ h]
 repeat rw[vS]
 by_cases b:(j6 (w.1.length:Int) 1 8&&(w.2.1.length:Int)==(w.1.length:Int)&&(w.2.2.1.length:Int)==(w.1.length:Int))=true
 ·have c:=b;simp only[ba,beq_iff_eq,B3] at c;rw[P0j w d (by omega),vS,gP ⟨rfl,fun _=>rfl,fun _=>rfl,fun _=>rfl,fun _=>rfl,fun _=>rfl,fun _=>rfl,fun _=>oo,fun _=>rfl,trivial⟩,lE];refine congrArg some ?_;rw[b];unfold BO;rw[decide_eq_true (show 1<=w.1.length by omega),decide_eq_true (show w.1.length<=8 by omega),decide_eq_true (show w.2.1.length=w.1.length by omega),decide_eq_true (show w.2.2.1.length=w.1.length by omega)];cases(List.range w.1.length).any (Oj w) <;> cases w.2.1.all (j6 · 0 1000) <;> cases w.2.2.1.all (j6 · 0 500) <;> cases(w.2.2.2.length:Int)==n <;> cases w.2.2.2.all (j6 · 0 ((w.1.length:Int)-1)) <;> rfl
 ·have c:(j6 (w.1.length:Int) 1 8&&(w.2.1.length:Int)==(w.1.length:Int)&&(w.2.2.1.length:Int)==(w.1.length:Int))=false:=by simpa using b
  rw[c,gP ⟨rfl,fun _=>rfl,fun _=>rfl,fun a=>by simp at a,fun a=>by simp at a,fun a=>by simp at a,fun a=>by simp at a,fun a=>by simp at a,fun a=>by simp at a,trivial⟩,lE];refine congrArg some ?_;rw[c];simp only[Bool.false_and]
  symm
  rw[<- Bool.not_eq_true];intro a;unfold BO at a;simp only[ba,dq] at a;refine b ?_;simp only[ba,beq_iff_eq,B3];omega
theorem M0O(w:D0)(n:Int)(s:wf y172 w):LY w n=some (BO w n):=by
 obtain⟨⟨k,_⟩,⟨u,_⟩,⟨v,_⟩,h,_⟩:=id s;unfold LY;by_cases a:1<=w.1.length/\w.1.length<=8/\w.2.1.length=w.1.length/\w.2.2.1.length=w.1.length/\(w.2.2.2.length:Int)=n
 ·obtain⟨t,r,d,f,q⟩:=a;have b:(decide ((w.1.length:Int)<1)||decide (8 < (w.1.length:Int))||(w.2.1.length:Int) != (w.1.length:Int)||(w.2.2.1.length:Int) != (w.1.length:Int)||(w.2.2.2.length:Int) != n)=false:=by
   rw[<- Bool.not_eq_true]; simp; omega
  refine(if_neg (by rw[b]; simp)).trans ?_;have k3:=K4 (n:=w.2.2.2.length) h (fun i=>!j6 (w.2.2.2.getD i 0) 0 ((w.1.length:Int)-1)) (some false) (e:=some true) (F:=ZS w) (fun g i hi=>CN hi h ⟨oo,oo,rfl,trivial⟩) (fun g=>aE);rw[V7 w.2.2.2 0 (fun x=>!j6 x 0 ((w.1.length:Int)-1))] at k3;have o:=K4 (n:=w.1.length) k (fun i=>(!j6 (w.2.2.1.getD i 0) 0 500||!j6 (w.2.1.getD i 0) 0 1000)||Oj w i) (some false) (e:=PH w ()) (F:=ZT w) (fun g i hi=>by
   have l:((i:Int)).toNat=i:=rfl;have b:((i:Int)==0)=(i==0):=by rw[Bool.eq_iff_iff,beq_iff_eq,beq_iff_eq]; omega
   have m:decide ((0:Int) < (i:Int))=decide (0<i):=by rw[decide_eq_decide]; omega
   refine(if_pos (by simpa using hi)).trans ?_;rw[l,b,m,U8,U8,U8]
   repeat rw[vS]
   rw[gP ⟨oo,rfl,fun _=>oo,fun _=>rfl,trivial⟩,gP ⟨fun _=>oo,fun _=>oo,fun _=>oo,fun _=>oo,fun _=>rfl,trivial⟩,gP ⟨oo,trivial⟩]
   grind) (fun g=>aE)
  refine o.trans ?_;rw[Rj,Rj];have j:=V7 w.2.2.1 0 (fun x=>!j6 x 0 500);have c:=V7 w.2.1 0 (fun x=>!j6 x 0 1000);rw[f] at j;rw[d] at c;rw[j,c];unfold PH;rw[k3];unfold BO;rw[decide_eq_true t,decide_eq_true r,decide_eq_true d,decide_eq_true f,beq_iff_eq.2 q,<- BN,<- BN,<- BN];cases(List.range w.1.length).any (Oj w) <;> cases w.2.1.any (fun x=>!j6 x 0 1000) <;> cases w.2.2.1.any (fun x=>!j6 x 0 500) <;> cases w.2.2.2.any (fun x=>!j6 x 0 ((w.1.length:Int)-1)) <;> rfl
 grind[decide,trans,BO]
theorem Ru(d:q9)(l:wf y53 d)(q:d.1.length<=14)(y:d.2.2.length<=8)(m:∀i,i<d.1.length->1<=(j9 d i).2.2.length/\(j9 d i).2.2.length<=5):Cw d=some (P5 d.1.length d.2.2.length (j9 d) (B7 d)):=by
 have h:=l.1.1;have f:=l.2.2.1;unfold Cw;have o:∀s:List C3,s.length<=70->Nn d s=some (fN (S5 (B7 d)) d.2.2.length s):=fun j w=>by
  rw[Nn];exact lF (n:=d.2.2.length) f (fun i (s:List C3)=>((i:Int),s)) (S5 (B7 d)) (fun i s=>s.length=j.length+i) (J:=fun s=>some s) (F:=B0e d) (fun g i s hi e=>by
   have b:((i:Int)).toNat=i:=rfl;refine(if_pos (by grind)).trans ?_;rw[b,gP ⟨oo,trivial⟩,lE,gP ⟨⟨by grind,by grind⟩,trivial⟩,gP ⟨oo,trivial⟩];rfl) (fun i s hi e=>by grind[S5,List.length_append]) (fun g s _=>aE) j rfl
 have c:=lF (n:=d.1.length) h (fun i (s:List C3)=>(s,(i:Int))) (Q9 (j9 d)) (fun i s=>s.length<=5*i) (J:=Nn d) (F:=B0g d) (fun g i s hi e=>by
  have b:((i:Int)).toNat=i:=rfl;have E:=(m i hi).2;have v:(j9 d i).2.2.length<=9223372036854775807:=by omega
  refine(if_pos (by grind)).trans ?_;rw[b,gP ⟨oo,trivial⟩,lE];have a:=lF (n:=(j9 d i).2.2.length) v (fun k (s:List C3)=>((k:Int),s)) (V9 (j9 d i) i) (fun k z=>z.length=s.length+k) (J:=Uy (i:Int) g) (F:=B0f (i:Int) (j9 d i) g) (fun r k z t hz=>by
   have u:((k:Int)).toNat=k:=rfl;refine(if_pos (by grind)).trans ?_;rw[u,gP ⟨oo,trivial⟩,gP ⟨oo,⟨by grind,by grind⟩,trivial⟩,lE];exact gP ⟨oo,trivial⟩) (fun k z t hz=>by grind[V9,List.length_append]) (fun r z _=>aE) s rfl
  refine a.trans ?_;exact gP ⟨oo,trivial⟩) (fun i s hi e=>by
  grind[Q9,Ih]) (fun g s _=>aE) [] (Nat.zero_le _)
 refine c.trans (o _ ?_);have:=Rl (x:=j9 d) (ni:=d.1.length) (fun i hi=>(m i hi).2) d.1.length (Nat.le_refl _);omega
theorem Gz(d:q9)(l:wf y53 d)(q:d.1.length<=14)(y:d.2.2.length<=8)(m:∀i,i<d.1.length->1<=(j9 d i).2.2.length/\(j9 d i).2.2.length<=5):M7 d=some (P5 d.1.length d.2.2.length (j9 d) (B7 d)):=by
 have h:=l.1.1;have f:=l.2.2.1;unfold M7;have o:∀s:List F3,s.length<=70->LP d s=some (fN (S5 (B7 d)) d.2.2.length s):=fun j w=>by
  rw[LP];exact lF (n:=d.2.2.length) f (fun i (s:List F3)=>((i:Int),s)) (S5 (B7 d)) (fun i s=>s.length=j.length+i) (J:=fun s=>some s) (F:=Zf d) (fun g i s hi e=>by
   have b:((i:Int)).toNat=i:=rfl;refine(if_pos (by grind)).trans ?_;rw[b,gP ⟨oo,oo,⟨by grind,by grind⟩,trivial⟩,lE];exact gP ⟨oo,trivial⟩) (fun i s hi e=>by grind[S5,List.length_append]) (fun g s _=>aE) j rfl
 have c:=lF (n:=d.1.length) h (fun i (s:List F3)=>((i:Int),s)) (Q9 (j9 d)) (fun i s=>s.length<=5*i) (J:=LP d) (F:=Zh d) (fun g i s hi e=>by
  have b:((i:Int)).toNat=i:=rfl;have E:=(m i hi).2;have v:(j9 d i).2.2.length<=9223372036854775807:=by omega
  refine(if_pos (by grind)).trans ?_;rw[b,gP ⟨oo,trivial⟩,lE];have a:=lF (n:=(j9 d i).2.2.length) v (fun k (s:List F3)=>((k:Int),s)) (V9 (j9 d i) i) (fun k z=>z.length=s.length+k) (J:=TE (i:Int) g) (F:=Zg (i:Int) (j9 d i) g) (fun r k z t hz=>by
   have u:((k:Int)).toNat=k:=rfl;refine(if_pos (by grind)).trans ?_;rw[u,gP ⟨oo,oo,⟨by grind,by grind⟩,trivial⟩,lE];exact gP ⟨oo,trivial⟩) (fun k z t hz=>by grind[V9,List.length_append]) (fun r z _=>aE) s rfl
  refine a.trans ?_;exact gP ⟨oo,trivial⟩) (fun i s hi e=>by
  grind[Q9,Ih]) (fun g s _=>aE) [] (Nat.zero_le _)
 refine c.trans (o _ ?_);have:=Rl (x:=j9 d) (ni:=d.1.length) (fun i hi=>(m i hi).2) d.1.length (Nat.le_refl _);omega
abbrev p7(d:q9):List C0:=P5 d.1.length d.2.2.length (j9 d) (B7 d)
abbrev x7(d:q9)(i:Nat):C0:=(p7 d).getD i (a6 y235)
abbrev j5(b:j0)(i:Nat):D0:=b.2.2.getD i (a6 y172)
def x5(b:j0):Bool:=Io b.1 b.2.1&&decide (b.2.2.length=b.2.1.2.1.length)&&!(List.range b.2.2.length).any fun i=>!BO (j5 b i) (A8 (x7 b.2.1) i (p7 b.2.1).length)
structure DF(l:List l5)(d:q9):Prop where
 lib:Fp l=true
 fac:DesignFacts l.length (Ao l) d.1.length d.2.2.length d.2.1.length (j9 d) (B7 d)
 pin:∀i,i<d.1.length->1<=(j9 d i).2.2.length/\(j9 d i).2.2.length<=5
 plc:Kl d.2.1.length (p7 d)
 len:(p7 d).length<=78
theorem W3{l:List l5}{d:q9}(h:Io l d=true):DF l d:=by
 obtain⟨c,b⟩:=o0a h;have e:∀i,i<d.1.length->1<=(j9 d i).2.2.length/\(j9 d i).2.2.length<=5:=fun i hi=>by
  have a:=b.inst i hi;have m:=(Wi a (fun y j=>(Rs c j).1)).1;unfold U4 at a;simp only[ba,beq_iff_eq] at a
  grind[Rs]
 have f:=b.net;refine⟨c,b,e,q0H f.2 (k0Q f.1 d.1.length (Nat.le_refl _)) d.2.2.length (Nat.le_refl _),?_⟩;have:=Rl (x:=j9 d) (ni:=d.1.length) (fun i hi=>(e i hi).2) d.1.length (Nat.le_refl _);have g:=b.ni14;have k:=b.np8;unfold p7 P5
 grind[NY]
theorem P0J(b:j0)(f:wf j3 b)(h:h9 j3 b<=1048576):Fc b=some (x5 b):=by
 have y:=f.1;have o:=f.2.1;have x:=f.2.2.1;have w:b.2.2.length<=1048576:=C4 (cS (cS h));unfold Fc x5;rw[P0x b.1 b.2.1 y o (cF h) (cF (cS h)),vS,gP ⟨rfl,trivial⟩];cases hdo:Io b.1 b.2.1 with
 | false=>grind
 | true =>
   have c:=W3 hdo;by_cases a:b.2.2.length=b.2.1.2.1.length
   ·have t:((b.2.2.length:Int) != (b.2.1.2.1.length:Int))=false:=by rw[a]; simp
    rw[t,decide_eq_true a];refine(if_neg (by simp)).trans ?_;rw[gP (Wj w (by decide)),Int.toNat_natCast,Ru b.2.1 o c.fac.ni14 c.fac.np8 c.pin,vS,gP ⟨rfl,trivial⟩,lE];have k:(p7 b.2.1).length<=9223372036854775807:=by have:=c.len; omega
    have d:∀i,i < (p7 b.2.1).length->j6 (x7 b.2.1 i).2.2.1 0 ((b.2.2.length:Int)-1)=true:=fun i hi=>by
     rw[a]; exact c.plc _ (L8 hi)
    have j:=lF (n:=(p7 b.2.1).length) k (fun i (v:List Int)=>((i:Int),v)) (Fo (x7 b.2.1)) (fun i v=>i<=(p7 b.2.1).length/\AI v b.2.2.length i) (J:=QE b) (F:=B0Q (p7 b.2.1) b) (fun g i v hi q=>by
     have l:((i:Int)).toNat=i:=rfl;have s:∀m,QF (i:Int) g m=g (((i+1:Nat):Int),m):=fun m=>gP ⟨oo,trivial⟩;refine(if_pos (by grind)).trans ?_;rw[l,gP ⟨oo,hi,trivial⟩,lE,s];show(if(!(x7 b.2.1 i).2.2.2)=true then _ else _)=g (_,Fo (x7 b.2.1) i v);unfold Fo;cases hdr:(x7 b.2.1 i).2.2.2 with
     | true=>rfl
     | false =>
       refine(if_pos rfl).trans ?_;refine(gP (Oi q.2 (by have:=c.len; omega) (d i hi))).trans ?_;rw[lE];exact s _) (fun i v hi q=>⟨by omega,by
     grind[Fo,Kk,VK]⟩) (fun g v _=>aE) (List.replicate b.2.2.length 0) ⟨by omega,Ri _ _⟩
    refine j.trans ?_;obtain⟨z,u⟩:=m0Y (x7 b.2.1) b.2.2.length (p7 b.2.1).length d;generalize fN (Fo (x7 b.2.1)) (p7 b.2.1).length (List.replicate b.2.2.length 0)=v at *
    rw[QE];have r:=K4 (n:=b.2.2.length) x (fun i=>!BO (j5 b i) (A8 (x7 b.2.1) i (p7 b.2.1).length)) (some false) (e:=some true) (F:=B0P v b) (fun g i hi=>by
     have l:((i:Int)).toNat=i:=rfl;refine(if_pos (by grind)).trans ?_;rw[l,gP ⟨oo,trivial⟩,lE,u i hi,P0w _ _ (N2 hi f.2.2),vS,gP ⟨oo,by omega,rfl,trivial⟩,gP ⟨oo,trivial⟩]) (fun g=>aE)
    grind
   grind
theorem Wk(d:q9)(h:wf y53 d){l:List l5}(a:DF l d)(t:Int):By d t=some (fN (P6 (x7 d) t) (p7 d).length []):=by
 have j:=a.len;unfold By;rw[Gz d h a.fac.ni14 a.fac.np8 a.pin,vS,gP ⟨rfl,trivial⟩,lE];exact lF (n:=(p7 d).length) (by omega) (fun i (s:List Int)=>((i:Int),s)) (P6 (x7 d) t) (fun i s=>s.length<=i) (J:=fun s=>some s) (F:=Zj (p7 d) t) (fun g i s hi c=>by
  have e:((i:Int)).toNat=i:=rfl;have b:∀s',Pv (i:Int) g s'=g (((i+1:Nat):Int),s'):=fun k=>gP ⟨oo,trivial⟩;refine(if_pos (by grind)).trans ?_;have f:s.length<=i:=c;rw[e,gP ⟨oo,hi,fun _=>oo,fun _=>hi,trivial⟩,gP ⟨⟨by grind,by grind⟩,trivial⟩,b,b];show _=g (_,P6 (x7 d) t i s);unfold P6
  grind) (fun i s hi c=>by
  grind[P6,List.length_append]) (fun g s _=>aE) [] (Nat.le_refl _)
theorem r83(b:j0)(c:wf j3 b)(k:h9 j3 b<=1048576):AX b=some (x5 b):=by
 have m:=c.1;have f:=c.2.1;have l:=c.2.2.1;unfold AX x5;rw[P0y b.1 b.2.1 m f (cF (cS k)),vS,gP ⟨rfl,trivial⟩];cases hdo:Io b.1 b.2.1 with
 | false=>grind
 | true =>
   have j:=W3 hdo;by_cases a:b.2.2.length=b.2.1.2.1.length
   ·have o:((b.2.2.length:Int) != (b.2.1.2.1.length:Int))=false:=by rw[a]; simp
    rw[o,decide_eq_true a];refine(if_neg (by simp)).trans ?_;have d:=K4 (n:=b.2.2.length) l (fun i=>!BO (j5 b i) (A8 (x7 b.2.1) i (p7 b.2.1).length)) (some false) (e:=some true) (F:=G0a b) (fun g i hi=>by
     have h:((i:Int)).toNat=i:=rfl;refine(if_pos (by grind)).trans ?_;rw[h,Wk b.2.1 f j,vS,NZ,M0O _ _ (N2 hi c.2.2),gP ⟨oo,rfl,rfl,trivial⟩,lE,NZ,M0O _ _ (N2 hi c.2.2),vS,gP ⟨oo,trivial⟩]) (fun g=>aE)
    grind
   grind
theorem Y7{b:j0}(h:x5 b=true):Io b.1 b.2.1=true/\b.2.2.length=b.2.1.2.1.length/\∀i,i<b.2.2.length->BO (j5 b i) (A8 (x7 b.2.1) i (p7 b.2.1).length)=true:=by
 grind[x5,hi]
abbrev x9(d:q9)(t:Int):List Int:=fN (P6 (x7 d) t) (p7 d).length []
def GA(l:List l5)(d:q9)(p:C0):Int:=if p.1<0 then 0 else((l.getD (j9 d p.1.toNat).2.1.toNat (a6 y153)).2.2.1.getD p.2.1.toNat (a6 y293)).2.2.1
theorem Rv{d:q9}{i:Nat}(h:i < (p7 d).length):x7 d i∈p7 d:=L8 h
theorem n0C{l:List l5}(h:Fp l=true){i:Nat}(hi:i<l.length):CO I2 (An l i)=true:=by
 have h:Dx _ _ _=true:=h;unfold Dx at h;rw[ba] at h;have:=Dy.1 h.1 i hi;rw[Bool.or_eq_false_iff,Bool.not_eq_false'] at this;exact this.1
theorem Wl{l:List l5}{d:q9}(c:DF l d){p:C0}(e:p∈p7 d):(p.1 = -1/\0<=p.2.1/\p.2.1.toNat<d.2.2.length) ∨
  (0<=p.1/\p.1.toNat<d.1.length/\0<=(j9 d p.1.toNat).2.1/\(j9 d p.1.toNat).2.1.toNat<l.length/\0<=p.2.1/\p.2.1.toNat < (l.getD (j9 d p.1.toNat).2.1.toNat (a6 y153)).2.2.1.length):=by
 rcases o0Y d.1.length d.2.2.length (j9 d) (B7 d) p e with h | ⟨h1,h2,h3,h4⟩
 ·exact .inl h
 ·have a:=c.fac.inst p.1.toNat h2;unfold U4 at a;simp only[ba,beq_iff_eq] at a;have f:=B3.1 a.1.1;have b:=a.1.2;refine .inr ⟨h1,h2,f.1,by omega,h3,?_⟩;have b:((j9 d p.1.toNat).2.2.length:Int)=((l.getD (j9 d p.1.toNat).2.1.toNat (a6 y153)).2.2.1.length:Int):=b;omega
theorem D0S{l:List l5}{d:q9}(b:DF l d){p:C0}(c:p∈p7 d):0<=GA l d p/\GA l d p<=500:=by
 unfold GA;split
 ·exact⟨by decide,by decide⟩
 ·rename_i e;rcases Wl b c with h | ⟨h1,h2,h3,h4,h5,h6⟩
  ·omega
  ·have a:Y4 I2 _ _ _ _ _ _ _ _ _=true:=n0C b.lib h4;unfold Y4 Bi at a;simp only[ba] at a;have:=Dy.1 a.1.1.1.1.2.2 p.2.1.toNat h6;rw[Bool.not_eq_false'] at this;unfold CJ at this;rw[ba] at this;exact B3.1 this.1
theorem Ol{d:q9}{t:Int}{k:Nat}(h:k < (x9 d t).length):0<=(x9 d t).getD k 0/\((x9 d t).getD k 0).toNat < (p7 d).length:=by
 obtain⟨j,a,b,_⟩:=Rn (x7 d) t (p7 d).length _ (L8 (d:=0) h);rw[a];exact⟨Int.natCast_nonneg _,by simpa using b⟩
structure NetOk(b:j0)(i:Nat):Prop where
 df:DF b.1 b.2.1
 lt:i<b.2.2.length
 wf:o0u (j5 b i) ((x9 b.2.1 i).length:Int)
theorem BQ{b:j0}(h:x5 b=true){i:Nat}(hi:i<b.2.2.length):NetOk b i:=by
 obtain⟨a,d,c⟩:=Y7 h;refine⟨W3 a,hi,?_⟩;rw[NZ];exact r0V (c i hi)
def r9(b:j0)(i k:Nat):Int:=(j5 b i).2.2.2.getD k 0
def Y8(b:j0)(i k:Nat):Int:=GA b.1 b.2.1 (x7 b.2.1 ((x9 b.2.1 i).getD k 0).toNat)
def U9(b:j0)(i k:Nat):Int:=(j5 b i).1.getD k 0
def DB(b:j0)(i k:Nat):Int:=(j5 b i).2.1.getD k 0
def A3(b:j0)(i:Nat):List Int:=I0Q (j5 b i).2.2.1 (j5 b i).1.length (x9 b.2.1 i).length (r9 b i) (Y8 b i) (U9 b i)
theorem NetOk.sn{b:j0}{i:Nat}(h:NetOk b i):(j5 b i).2.2.2.length=(x9 b.2.1 i).length:=by have:=h.wf.snk; omega
theorem NetOk.s78{b:j0}{i:Nat}(h:NetOk b i):(x9 b.2.1 i).length<=78:=by
 have c:=h.df.len;have e:=N4 (x7 b.2.1) i (p7 b.2.1).length;have a:=NZ (x7 b.2.1) i (p7 b.2.1).length;have d:((x9 b.2.1 i).length:Int)=A8 (x7 b.2.1) i (p7 b.2.1).length:=a;omega
theorem NetOk.capIn{b:j0}{i:Nat}(h:NetOk b i){k:Nat}(d:k < (x9 b.2.1 i).length):0<=r9 b i k/\(r9 b i k).toNat < (j5 b i).1.length/\0<=Y8 b i k/\Y8 b i k<=500:=by
 have a:=h.wf.snkIn k (by rw[h.sn]; exact d);have c:=D0S h.df (Rv (Ol d).2);exact⟨a.1,a.2,c.1,c.2⟩
theorem NetOk.low{b:j0}{i:Nat}(h:NetOk b i):∀m,m<=(x9 b.2.1 i).length->Low (fN (CL (r9 b i) (Y8 b i)) m (j5 b i).2.2.1) (j5 b i).1.length (500*((j5 b i).1.length:Int)+500*(m:Int)):=fun m a=>r0I (E0i h.wf.cap h.wf.capOk) m (fun k c=>h.capIn (by omega))
theorem NetOk.pull{b:j0}{i:Nat}(h:NetOk b i):∀k,k<=(j5 b i).1.length-1->Ko (fN (Y5 (U9 b i) (j5 b i).1.length) k (fN (CL (r9 b i) (Y8 b i)) (x9 b.2.1 i).length (j5 b i).2.2.1)) (j5 b i).1.length k 43000:=by
 have a:=h.low _ (Nat.le_refl _);have f:=h.s78;have g:=h.wf.n8;have e:Low (fN (CL (r9 b i) (Y8 b i)) (x9 b.2.1 i).length (j5 b i).2.2.1) (j5 b i).1.length 43000:=⟨a.len,a.pos,by have:=a.sum; omega⟩;exact n0f e (by decide) (fun k d c=>h.wf.par k d c)
theorem NetOk.loads{b:j0}{i:Nat}(h:NetOk b i):(A3 b i).length=(j5 b i).1.length/\∀j,0<=(A3 b i).getD j 0/\(A3 b i).getD j 0<=43000:=by
 have:=h.pull _ (Nat.le_refl _);exact⟨this.len,fun j=>⟨this.pos j,this.bd j⟩⟩
abbrev v8(b:j0)(i:Nat):l5:=b.1.getD (j9 b.2.1 i).2.1.toNat (a6 y153)
theorem GB{b:j0}(a:DF b.1 b.2.1){i:Nat}(hi:i<b.2.1.1.length):ix (j9 b.2.1 i).2.1 b.1.length/\CO I2 (v8 b i)=true/\(j9 b.2.1 i).2.2.length=(v8 b i).2.2.1.length:=by
 have:=a.fac.inst i hi;unfold U4 at this;rw[ba,ba,beq_iff_eq] at this;have c:=B3.1 this.1.1;have d:=this.1.2;have e:((j9 b.2.1 i).2.2.length:Int)=((v8 b i).2.2.1.length:Int):=d;exact⟨⟨c.1,by omega⟩,n0C a.lib (by omega),by omega⟩
theorem GC{c:l5}(h:CO I2 c=true):2<=c.2.2.1.length/\c.2.2.1.length<=5/\c.2.2.2.1.length<=8/\∀j,j<c.2.2.2.1.length->0<=(j7 c j).2.1/\(j7 c j).2.1 < (c.2.2.1.length:Int)-1/\0<=(j7 c j).2.2.1/\(j7 c j).2.2.1 < (c.2.2.1.length:Int):=by
 have h:Y4 I2 _ _ _ _ _ _ _ _ _=true:=h;unfold Y4 Ic at h;simp only[ba,dq] at h;have b:=Kh h.1.1.1.1.2;refine⟨b.1,b.2.1,h.1.1.1.2.1,fun j d=>?_⟩;have:=Dy.1 h.1.1.1.2.2 j d;rw[Bool.or_eq_false_iff,Bool.not_eq_false'] at this;have a:=this.1;unfold I2 at a;rw[ba,ba] at a;have e:=B3.1 a.1.1;have f:=B3.1 a.1.2;omega
theorem P0f(l:List l5)(d:q9)(a:DF l d){p:C0}(b:p∈p7 d):HP d l p=some (GA l d p):=by
 unfold HP GA;rcases Wl a b with h | ⟨h1,h2,h3,h4,h5,h6⟩
 ·grind
 ·refine(if_neg (by grind)).trans ?_;rw[if_neg (by omega),gP ⟨oo,⟨h3,by grind⟩,⟨h5,by grind⟩,trivial⟩];rfl
theorem P0g(d:q9)(h:wf y53 d){l:List l5}(a:DF l d)(t:Int):NC d t=some (x9 d t):=by
 have j:=a.len;unfold NC;rw[Ru d h a.fac.ni14 a.fac.np8 a.pin,vS,gP ⟨rfl,trivial⟩,lE];exact lF (n:=(p7 d).length) (by omega) (fun i (s:List Int)=>(s,(i:Int))) (P6 (x7 d) t) (fun i s=>s.length<=i) (J:=fun s=>some s) (F:=A0p t (p7 d)) (fun g i s hi c=>by
  have e:((i:Int)).toNat=i:=rfl;have b:∀s',QG (i:Int) g s'=g (s',((i+1:Nat):Int)):=fun k=>gP ⟨oo,trivial⟩;refine(if_pos (by grind)).trans ?_;have f:s.length<=i:=c;rw[e,gP ⟨oo,hi,trivial⟩,lE,gP ⟨⟨by grind,by grind⟩,trivial⟩,b,b];show _=g (P6 (x7 d) t i s,_);unfold P6
  grind) (fun i s hi c=>by
  grind[P6,List.length_append]) (fun g s _=>aE) [] (Nat.le_refl _)
theorem P0h(xs:List Int)(h:xs.length<=1048576):QJ xs=some xs:=gP ⟨oo,trivial⟩
theorem M0N(b:j0)(w:wf j3 b){i:Nat}(h:NetOk b i):Cy b (i:Int)=some (A3 b i):=by
 have u:=w.2.1;have df:=h.df;have hb:=w.2.2.1;have hi:=h.lt;have n1:=h.wf.n1;have n8:=h.wf.n8;have T:=h.sn;have hs:=h.s78;have z:=h.wf.cap;unfold Cy;have Y:((i:Int)).toNat=i:=rfl;rw[gP ⟨oo,trivial⟩,lE,Y,P0h _ (by grind),vS,gP ⟨rfl,trivial⟩,lE,Ru b.2.1 u df.fac.ni14 df.fac.np8 df.pin,vS,gP ⟨rfl,trivial⟩,lE,P0g b.2.1 u df,vS,gP ⟨rfl,trivial⟩,lE];have m:=lF (n:=(x9 b.2.1 i).length) (by omega) (fun k (s:List Int)=>((k:Int),s)) (CL (r9 b i) (Y8 b i)) (fun k v=>Low v (j5 b i).1.length (500*((j5 b i).1.length:Int)+500*(k:Int))) (J:=QH (j5 b i)) (F:=B0b b (p7 b.2.1) (x9 b.2.1 i) (j5 b i)) (fun g k v c a=>by
  have G:((k:Int)).toNat=k:=rfl;obtain⟨y,o,t,V⟩:=h.capIn c;obtain⟨H,x⟩:=Ol c;have hv:=a.bd (by omega) (r9 b i k).toNat;have e:0<=(j5 b i).2.2.2.getD k 0:=y;have f:((j5 b i).2.2.2.getD k 0).toNat<v.length:=by rw[a.len]; exact o
  refine(if_pos (by grind)).trans ?_;rw[G,gP ⟨oo,c,trivial⟩,P0f b.1 b.2.1 df (Rv x),vS];rw[gP ⟨oo,⟨e,by omega⟩,f,⟨H,by omega⟩,x,rfl,⟨by grind[r9,Y8],by grind[r9,Y8]⟩,⟨e,by omega⟩,f,trivial⟩,lE];exact gP ⟨oo,trivial⟩) (fun k v c a=>by
  obtain⟨y,o,t,V⟩:=h.capIn c;have:=a.add o t;refine⟨this.len,this.pos,Int.le_trans this.sum ?_⟩;omega) (fun g s _=>aE) (j5 b i).2.2.1 (by
  have:=h.low 0 (Nat.zero_le _);exact this)
 refine m.trans ?_;have l:=(h.low _ (Nat.le_refl _)).len;have j:=h.pull 0 (Nat.zero_le _);have X:A3 b i=fN (Y5 (U9 b i) (j5 b i).1.length) ((j5 b i).1.length-1) (fN (CL (r9 b i) (Y8 b i)) (x9 b.2.1 i).length (j5 b i).2.2.1):=rfl;rw[X];have q:=h.pull;generalize fN (CL (r9 b i) (Y8 b i)) (x9 b.2.1 i).length (j5 b i).2.2.1=v0 at l j q ⊢;rw[QH,l,gP ⟨oo,trivial⟩];have W:(((j5 b i).1.length:Int)-1,v0)=(fun(k:Nat) (s:List Int)=>(((j5 b i).1.length:Int)-1-(k:Int),s)) 0 v0:=by simp
 rw[W];exact lF (n:=(j5 b i).1.length-1) (by omega) (fun(k:Nat) (s:List Int)=>(((j5 b i).1.length:Int)-1-(k:Int),s)) (Y5 (U9 b i) (j5 b i).1.length) (fun k v=>Ko v (j5 b i).1.length k 43000) (J:=fun s=>some s) (F:=JP (j5 b i)) (fun g k v c a=>by
  have P:=h.wf.par ((j5 b i).1.length-1-k) (by omega) (by omega);have d:0<=(j5 b i).1.getD ((j5 b i).1.length-1-k) 0/\((j5 b i).1.getD ((j5 b i).1.length-1-k) 0).toNat < (j5 b i).1.length-1-k:=P;have r:=a.len;have e6:((j5 b i).1.length:Int)-1-(k:Int)=(((j5 b i).1.length-1-k:Nat):Int):=by omega
  have Q:((((j5 b i).1.length-1-k:Nat):Int)).toNat=(j5 b i).1.length-1-k:=rfl;have b1:=a.pos ((j5 b i).1.getD ((j5 b i).1.length-1-k) 0).toNat;have b2:=a.bd ((j5 b i).1.getD ((j5 b i).1.length-1-k) 0).toNat;have b3:=a.pos ((j5 b i).1.length-1-k);have b4:=a.bd ((j5 b i).1.length-1-k);have e8:((j5 b i).1.length:Int)-1-((k+1:Nat):Int)=(((j5 b i).1.length-1-k:Nat):Int)-1:=by omega
  show JP (j5 b i) g (((j5 b i).1.length:Int)-1-(k:Int),v)=g (((j5 b i).1.length:Int)-1-((k+1:Nat):Int),Y5 (U9 b i) (j5 b i).1.length k v);rw[e8,e6];refine(if_pos (decide_eq_true (by omega))).trans ?_;rw[Q,gP ⟨oo,⟨d.1,by omega⟩,by omega,oo,by omega,oo,⟨d.1,by omega⟩,by omega,trivial⟩,lE];exact gP ⟨oo,trivial⟩) (fun k v c a=>VP a c (h.wf.par _ (by omega) (by omega))) (fun g s _=>by
  have E:((j5 b i).1.length:Int)-1-(((j5 b i).1.length-1:Nat):Int)=0:=by omega
  show JP (j5 b i) g (((j5 b i).1.length:Int)-1-(((j5 b i).1.length-1:Nat):Int),s)=some s;rw[E];have:JP (j5 b i) g (0,s)=UP s:=by
   rw[JP];exact if_neg (by decide)
  exact this.trans rfl) v0 j
def A9(b:j0)(i:Nat):List Int:=E0G (j5 b i).1.length (U9 b i) (DB b i) (fun k=>(A3 b i).getD k 0)
def Ap(b:j0)(i:Nat):List Int:=fN (Ii (A9 b i) (r9 b i)) (x9 b.2.1 i).length []
theorem NetOk.del{b:j0}{i:Nat}(h:NetOk b i):∀k,k<=(j5 b i).1.length-1->(fN (U6 (U9 b i) (DB b i) (fun k=>(A3 b i).getD k 0)) k [0]).length=k+1/\∀j,0<=(fN (U6 (U9 b i) (DB b i) (fun k=>(A3 b i).getD k 0)) k [0]).getD j 0/\(fN (U6 (U9 b i) (DB b i) (fun k=>(A3 b i).getD k 0)) k [0]).getD j 0<=1000*43000*(k:Int) :=
 w0p (n:=(j5 b i).1.length) (fun k a=>h.wf.resIn k a) (fun k _=>h.loads.2 k) (by decide)
theorem NetOk.delays{b:j0}{i:Nat}(h:NetOk b i):(A9 b i).length=(j5 b i).1.length/\∀j,0<=(A9 b i).getD j 0/\(A9 b i).getD j 0<=301000000:=by
 have a:=h.del _ (Nat.le_refl _);have n1:=h.wf.n1;have n8:=h.wf.n8;refine⟨a.1.trans (by omega),fun j=>⟨(a.2 j).1,Int.le_trans (a.2 j).2 (by omega)⟩⟩
theorem P0e(b:j0)(o:wf j3 b){i:Nat}(h:NetOk b i):NE b (i:Int)=some (A9 b i):=by
 have hi:=h.lt;have P:=o.2.2.1;have n1:=h.wf.n1;have n8:=h.wf.n8;have Q:=h.wf.res;obtain⟨x,r⟩:=h.loads;have z:((i:Int)).toNat=i:=rfl;unfold NE;rw[M0N b o h,vS,gP ⟨oo,rfl,trivial⟩,lE,z];show gd ((0<=((A3 b i).length:Int)/\((A3 b i).length:Int)=((A3 b i).length:Int)/\((A3 b i).length:Int).toNat*8<=281474976710656/\((A3 b i).length:Int)<=9223372036854775807)/\True) (lp (ND (j5 b i) (A3 b i)) (1,List.replicate ((A3 b i).length:Int).toNat 0))=_;rw[x,gP ⟨⟨by omega,rfl,by omega,by omega⟩,trivial⟩];have y:((1:Int),List.replicate ((j5 b i).1.length:Int).toNat (0:Int))=(fun(k:Nat) (s:List Int)=>(((k+1:Nat):Int),s++List.replicate ((j5 b i).1.length-1-k) 0)) 0 [0]:=by
  show((1:Int),List.replicate (j5 b i).1.length (0:Int))=_;have:(j5 b i).1.length=((j5 b i).1.length-1)+1:=by omega
  rw[this,List.replicate_succ];rfl
 rw[y];refine(lF (n:=(j5 b i).1.length-1) (by omega) (fun(k:Nat) (s:List Int)=>(((k+1:Nat):Int),s++List.replicate ((j5 b i).1.length-1-k) 0)) (U6 (U9 b i) (DB b i) (fun k=>(A3 b i).getD k 0)) (fun k s=>s.length=k+1/\∀j,0<=s.getD j 0/\s.getD j 0<=1000*43000*(k:Int)) (J:=fun s=>some s) (F:=ND (j5 b i) (A3 b i)) (fun g k s G c=>?_) (fun k s G c=>?_) (fun g s c=>?_) [0] ?_)
 ·obtain⟨f,l⟩:=c;have q:=h.wf.par (k+1) (by omega) (by omega);have e:(s++List.replicate ((j5 b i).1.length-1-k) (0:Int)).length=(j5 b i).1.length:=by rw[List.length_append,List.length_replicate]; omega
  have w:(((k+1:Nat):Int)).toNat=k+1:=rfl;have m:=z0k (n:=(j5 b i).1.length) f q.2;have a:=h.wf.resIn (k+1) (by omega);have d:=r (k+1);have u:=Oa a.1 a.2 d.1 d.2;have E:=l ((j5 b i).1.getD (k+1) 0).toNat;show ND (j5 b i) (A3 b i) g (((k+1:Nat):Int),s++List.replicate ((j5 b i).1.length-1-k) 0)=g (((k+1+1:Nat):Int),U6 (U9 b i) (DB b i) (fun k=>(A3 b i).getD k 0) k s++List.replicate ((j5 b i).1.length-1-(k+1)) 0);have H:U6 (U9 b i) (DB b i) (fun k=>(A3 b i).getD k 0) k s++List.replicate ((j5 b i).1.length-1-(k+1)) 0=(s++List.replicate ((j5 b i).1.length-1-k) 0).set (k+1) (s.getD ((j5 b i).1.getD (k+1) 0).toNat 0+(j5 b i).2.1.getD (k+1) 0*(A3 b i).getD (k+1) 0):=(z0j f (by omega)).symm;rw[H,<- m];generalize s++List.replicate ((j5 b i).1.length-1-k) (0:Int)=v at e m ⊢;refine(if_pos (by grind)).trans ?_;rw[w,gP ⟨oo,⟨q.1,by omega⟩,by omega,oo,oo,by omega,oo,oo,oo,by omega,trivial⟩,lE];exact gP ⟨oo,trivial⟩
 ·obtain⟨f,l⟩:=c;have a:=h.wf.resIn (k+1) (by omega);have d:=r (k+1);have u:=Oa a.1 a.2 d.1 d.2
  grind[U9,U6,List.length_append,DB,A3,Nat.lt_or_ge,Kp,VR,List.getD_cons_zero,List.getD_cons_succ,List.getD_nil]
 ·have t:(j5 b i).1.length-1-((j5 b i).1.length-1)=0:=by omega
  show ND (j5 b i) (A3 b i) g ((((j5 b i).1.length-1+1:Nat):Int),s++List.replicate ((j5 b i).1.length-1-((j5 b i).1.length-1)) 0)=some s;rw[t,List.replicate_zero,List.append_nil,<- c.1];exact aE
 grind
theorem P0u(b:j0)(e:wf j3 b){i:Nat}(h:NetOk b i):Gi b (i:Int)=some (Ap b i):=by
 have hi:=h.lt;have m:=e.2.2.1;have a:=h.sn;have o:=h.s78;obtain⟨r,q⟩:=h.delays;have f:((i:Int)).toNat=i:=rfl;unfold Gi;rw[P0e b e h,vS,gP ⟨rfl,trivial⟩,lE,gP ⟨oo,trivial⟩,lE,f];unfold Ap;rw[<- a];exact lF (n:=(j5 b i).2.2.2.length) (by omega) (fun(k:Nat) (s:List Int)=>(s,(k:Int))) (Ii (A9 b i) (r9 b i)) (fun k s=>s.length=k) (J:=fun s=>some s) (F:=A0Y (A9 b i) (j5 b i)) (fun g k s d c=>by
  have l:((k:Int)).toNat=k:=rfl;have j:=h.wf.snkIn k d;have c:s.length=k:=c;refine(if_pos (by grind)).trans ?_;rw[l,gP ⟨oo,trivial⟩,gP ⟨⟨j.1,by omega⟩,by omega,⟨by grind,by grind⟩,trivial⟩,lE];exact gP ⟨oo,trivial⟩) (fun k s d c=>by
  grind[Ii,List.length_append]) (fun g s _=>aE) [] rfl
theorem Ip{b:j0}{i k:Nat}(a:k < (x9 b.2.1 i).length):(Ap b i).getD k 0=(A9 b i).getD (r9 b i k).toNat 0:=w0j _ _ _ k a
theorem Iq(b:j0)(i:Nat):(Ap b i).length=(x9 b.2.1 i).length:=VT _ _ _
theorem P0i(a:A6):NF a=some (K3 a.1 a.2.2.2.1):=by
 unfold NF K3;split
 ·rfl
 split
 ·rfl
 split
 ·rfl
 split
 ·rfl
 split
 ·rfl
 ·rfl
theorem P0v(b:j0)(T:DF b.1 b.2.1){i:Nat}(hi:i<b.2.1.1.length)(f:Int)(h0:0<=f)(X:f<=1000):Gj b (j9 b.2.1 i) f=some (Bj f (j7 (v8 b i)) (v8 b i).2.2.2.1.length):=by
 obtain⟨t,y,W⟩:=GB T hi;obtain⟨P,w,r,o⟩:=GC y;unfold Gj;rw[gP ⟨t,trivial⟩,lE];show lp (UT f (v8 b i)) ([],0)=_;generalize v8 b i=c at P w r o;refine lF (n:=c.2.2.2.1.length) (by omega) (fun(j:Nat) (s:List u0)=>(s,(j:Int))) (U7 f (j7 c)) (fun j s=>s.length<=4*j) (J:=fun s=>some s) (F:=UT f c) (fun g j s l e=>?_) (fun j s l e=>?_) (fun g s _=>aE) [] (Nat.le_refl _)
 ·have v:((j:Int)).toNat=j:=rfl;obtain⟨H,x,Q,q⟩:=o j l;have e:s.length<=4*j:=e;refine(if_pos (by simpa using l)).trans ?_;rw[v,gP ⟨oo,trivial⟩,lE,P0i,vS,gP ⟨rfl,trivial⟩,lE];show lp (US f (j7 c j) (j:Int) (K3 (j7 c j).1 (j7 c j).2.2.2.1) g) (0,s)=g (U7 f (j7 c) j s,_);obtain⟨E,m⟩:=Ro (j7 c j).1 (j7 c j).2.2.2.1;have V:U7 f (j7 c) j s=fN (AK f (j7 c j).2.1 (j7 c j).2.2.1 (j:Int) (K3 (j7 c j).1 (j7 c j).2.2.2.1)) (K3 (j7 c j).1 (j7 c j).2.2.2.1).length s:=rfl;rw[V];generalize K3 (j7 c j).1 (j7 c j).2.2.2.1=tr at E m;generalize j7 c j=a at H x Q q;refine(lF (n:=tr.length) (by omega) (fun(k:Nat) (s:List u0)=>((k:Int),s)) (AK f a.2.1 a.2.2.1 (j:Int) tr) (fun k z=>z.length=s.length+k) (J:=fun z=>UR (j:Int) g z) (F:=US f a (j:Int) tr g) (fun u k z h hz=>?_) (fun k z h hz=>?_) (fun u z _=>aE) s rfl).trans ?_
  ·have G:((k:Int)).toNat=k:=rfl;have Y:=m _ (L8 (d:=((0,0):Int×Int)) h);have hz:z.length=s.length+k:=hz;refine(if_pos (by simpa using h)).trans ?_;rw[G,gP ⟨oo,h,trivial⟩,lE];show gd _ _=_;rw[gP ⟨oo,oo,oo,⟨by show _<=2*(f+a.2.1)+(tr.getD k (0,0)).1; omega,by show 2*(f+a.2.1)+(tr.getD k (0,0)).1<=_; omega⟩,oo,oo,oo,⟨by show _<=2*(f+a.2.2.1)+(tr.getD k (0,0)).2; omega,by show 2*(f+a.2.2.1)+(tr.getD k (0,0)).2<=_; omega⟩,⟨by show z.length+1<=_; omega,by show(z.length+1)*32<=_; omega⟩,trivial⟩,lE];exact gP ⟨oo,trivial⟩
  ·have hz:z.length=s.length+k:=hz;unfold AK;rw[List.length_append,hz]; rfl
  ·exact gP ⟨oo,trivial⟩
 ·have e:s.length<=4*j:=e;have:=VU f (j7 c) j s;show _<=4*(j+1);omega
def BR(b:j0)(i:Nat)(s:Int×List u0):Int×List u0:=Y6 (fun i=>(j9 b.2.1 i).2.2.length) (fun i=>j7 (v8 b i)) (fun i=>(v8 b i).2.2.2.1.length) i s
def L4(b:j0)(i:Nat):Int:=W2 (x7 b.2.1) i (p7 b.2.1).length
def Ku(b:j0):List u0:=(fN (BR b) b.2.1.1.length (0,[])).2
def lV(b:j0):List u0:=fN (BP (L4 b) (fun i=>x9 b.2.1 i)) b.2.2.length (Ku b)
def C0o(b:j0):List Int:=fN (Bk fun i=>(A3 b i).getD 0 0) b.2.2.length []
def w0o(b:j0):List (List Int):=fN (Bk fun i=>Ap b i) b.2.2.length []
def l6(b:j0):D1:=(b,p7 b.2.1,lV b,C0o b,w0o b,[])
theorem Wm{b:j0}(a:DF b.1 b.2.1)(m:Nat)(c:m<=b.2.1.1.length):0<=(fN (BR b) m (0,[])).1/\(fN (BR b) m (0,[])).1<=5*(m:Int)/\(fN (BR b) m (0,[])).2.length<=32*m :=
 n0K (n:=b.2.1.1.length) (fun i hi=>⟨(a.pin i hi).2,(GC (GB a hi).2.1).2.2.1⟩) m c
def Rw(b:j0)(i:Nat)(s:List Int×List (List Int)×List u0):List Int×List (List Int)×List u0:=(s.1++[(A3 b i).getD 0 0],s.2.1++[Ap b i],BP (L4 b) (fun i=>x9 b.2.1 i) i s.2.2)
theorem k0J(b:j0)(z:List u0):∀m,fN (Rw b) m ([],[],z)=(fN (Bk fun i=>(A3 b i).getD 0 0) m [],fN (Bk fun i=>Ap b i) m [],fN (BP (L4 b) (fun i=>x9 b.2.1 i)) m z)
 | 0=>rfl
 | m+1=>by
   show Rw b m (fN (Rw b) m ([],[],z))=_;rw[k0J b z m]; rfl
theorem P0H(b:j0)(hw:wf j3 b)(Y:x5 b=true):HR b=some (l6 b):=by
 obtain⟨aJ,H,aC⟩:=Y7 Y;have d:=W3 aJ;have hd:=hw.2.1;have aM:=d.fac.ni14;have aL:=d.fac.nn30;have aN:=d.len;have aG:b.2.1.1.length<=9223372036854775807:=by omega
 have eN:∀l,F6 l=some (l.length:Int):=fun _=>rfl;unfold HR;rw[Ru b.2.1 hd d.fac.ni14 d.fac.np8 d.pin,vS,gP ⟨rfl,trivial⟩,lE];refine(lF (n:=b.2.1.1.length) aG (fun(i:Nat) (s:Int×List u0)=>(s.1,(i:Int),s.2)) (BR b) (fun i s=>0<=s.1/\s.1<=5*(i:Int)/\s.2.length<=32*i) (J:=fun s=>NH (p7 b.2.1) b s.2) (F:=B0N b (p7 b.2.1)) (fun g i s hi j=>?_) (fun i s hi j=>?_) (fun g s _=>aE) (0,[]) ⟨Int.le_refl _,Int.le_refl _,Nat.le_refl _⟩).trans ?_
 ·have E:((i:Int)).toNat=i:=rfl;obtain⟨f,z⟩:=s;obtain⟨e,i2,i3⟩:=j;have e:0<=f:=e;have i2:f<=5*(i:Int):=i2;have i3:z.length<=32*i:=i3;have hp:=d.pin i hi;have aB:=Oc f (j7 (v8 b i)) (v8 b i).2.2.2.1.length;have aA:=(GC (GB d hi).2.1).2.2.1;refine(if_pos (by grind)).trans ?_;rw[E,gP ⟨oo,trivial⟩,lE];show gd ((Gj b (j9 b.2.1 i) f).isSome=true/\_/\True) _=_;rw[P0v b d hi f e (by omega),vS,gP ⟨rfl,oo,trivial⟩,lE];show gd ((F6 (j9 b.2.1 i).2.2).isSome=true/\b7 (f+vl (F6 (j9 b.2.1 i).2.2))/\True) _=_;rw[eN,vS,gP ⟨rfl,oo,trivial⟩,lE];exact gP ⟨oo,trivial⟩
 ·obtain⟨f,z⟩:=s;obtain⟨e,i2,i3⟩:=j;have e:0<=f:=e;have i2:f<=5*(i:Int):=i2;have i3:z.length<=32*i:=i3;have hp:=d.pin i hi;have aB:=Oc f (j7 (v8 b i)) (v8 b i).2.2.2.1.length;have aA:=(GC (GB d hi).2.1).2.2.1;refine⟨by show 0<=f+((j9 b.2.1 i).2.2.length:Int); omega,by show f+((j9 b.2.1 i).2.2.length:Int)<=_; omega,?_⟩;show(z++Bj f (j7 (v8 b i)) (v8 b i).2.2.2.1.length).length<=_
  grind
 have hz:=(Wm d _ (Nat.le_refl _)).2.2;have aD:Ku b=(fN (BR b) b.2.1.1.length (0,[])).2:=rfl;unfold l6 lV C0o w0o;rw[aD];generalize (fN (BR b) b.2.1.1.length (0,[])).2=z at hz;show NH (p7 b.2.1) b z=_;have aK:b.2.2.length<=30:=by omega
 rw[NH,gP ⟨⟨by omega,rfl,by omega,by omega⟩,trivial⟩,gP ⟨⟨by omega,rfl,by omega,by omega⟩,trivial⟩];show lp (UZ (p7 b.2.1) b z) (0,List.replicate b.2.2.length [],List.replicate b.2.2.length 0)=_;have h:∀i,i < (p7 b.2.1).length->j6 (x7 b.2.1 i).2.2.1 0 ((b.2.2.length:Int)-1)=true:=fun i hi=>by rw[H]; exact d.plc _ (Rv hi)
 have gf:=n0N (x7 b.2.1) b.2.2.length;refine(lF (n:=(p7 b.2.1).length) (by omega) (fun(i:Nat) (s:List (List Int)×List Int)=>((i:Int),s.1,s.2)) (Ak (x7 b.2.1)) (fun i s=>s.1.length=b.2.2.length/\s.2.length=b.2.2.length/\∀k:Nat,(s.1.getD k []).length<=i) (J:=fun s=>UY b (p7 b.2.1) z s) (F:=UZ (p7 b.2.1) b z) (fun g i s hi j=>?_) (fun i s hi j=>?_) (fun g s _=>aE) (List.replicate b.2.2.length [],List.replicate b.2.2.length 0) ⟨List.length_replicate,List.length_replicate,fun k=>?_⟩).trans ?_
 ·obtain⟨a,c⟩:=s;obtain⟨X,W,w⟩:=j;have X:a.length=b.2.2.length:=X;have W:c.length=b.2.2.length:=W;have w:∀k:Nat,(a.getD k []).length<=i:=w;have hp:=B3.1 (h i hi);have E:((i:Int)).toNat=i:=rfl;have j4:∀x y,QK (i:Int) g (x,y)=g (((i+1:Nat):Int),y,x):=fun x y=>gP ⟨oo,trivial⟩;have g4:=w (x7 b.2.1 i).2.2.1.toNat;refine(if_pos (by grind)).trans ?_;rw[E,gP ⟨oo,hi,trivial⟩,lE];show(if(x7 b.2.1 i).2.2.2=true then _ else _)=g (_,(Ak (x7 b.2.1) i (a,c)).1,(Ak (x7 b.2.1) i (a,c)).2);unfold Ak;cases(x7 b.2.1 i).2.2.2 with
  | true =>
    rw[if_pos rfl,if_pos rfl];show gd (ix (x7 b.2.1 i).2.2.1 c.length/\_/\True) _=_;rw[gP ⟨oo,by grind,trivial⟩,j4]
  | false =>
    rw[if_neg (by simp),if_neg (by simp)];show gd (ix (x7 b.2.1 i).2.2.1 a.length/\_) _=_;rw[gP ⟨oo,by grind,⟨by grind,by grind⟩,⟨by grind,by grind⟩,⟨by grind,rfl⟩,trivial⟩,lE,j4]
 ·obtain⟨a,c⟩:=s;obtain⟨X,W,w⟩:=j;have X:a.length=b.2.2.length:=X;have W:c.length=b.2.2.length:=W;have w:∀k:Nat,(a.getD k []).length<=i:=w;have hp:=B3.1 (h i hi);unfold Ak
  grind[List.length_set,VW,List.length_append]
 ·grind
 obtain⟨gl,dl,v⟩:=gf (p7 b.2.1).length h;generalize fN (Ak (x7 b.2.1)) (p7 b.2.1).length (List.replicate b.2.2.length [],List.replicate b.2.2.length 0)=s at gl dl v;obtain⟨a,c⟩:=s;have gl:a.length=b.2.2.length:=gl;have dl:c.length=b.2.2.length:=dl;have aH:∀k:Nat,k<b.2.2.length->a.getD k []=x9 b.2.1 k:=fun k G=>(v k G).1;have aI:∀k:Nat,k<b.2.2.length->c.getD k 0=L4 b k:=fun k G=>(v k G).2;show lp (UX c a b (p7 b.2.1)) (0,[],[],z)=_;refine(lF (n:=b.2.2.length) (by omega) (fun(i:Nat) (s:List Int×List (List Int)×List u0)=>((i:Int),s.1,s.2.1,s.2.2)) (Rw b) (fun i s=>s.1.length=i/\s.2.1.length=i/\s.2.2.length<=500+160*i) (J:=fun s=>some (b,p7 b.2.1,s.2.2,s.1,s.2.1,[])) (F:=UX c a b (p7 b.2.1)) (fun g i s hi j=>?_) (fun i s hi j=>?_) (fun g s _=>aE) ([],[],z) ⟨rfl,rfl,by grind⟩).trans ?_
 ·obtain⟨o,q,r⟩:=s;obtain⟨e,i2,i3⟩:=j;have e:o.length=i:=e;have i2:q.length=i:=i2;have i3:r.length<=500+160*i:=i3;have m:=BQ Y hi;have n1:=m.wf.n1;have T:=m.s78;have aO:=m.loads.1;have E:((i:Int)).toNat=i:=rfl;refine(if_pos (by grind)).trans ?_;rw[M0N b hw m,vS,gP ⟨rfl,oo,by omega,⟨by grind,by grind⟩,trivial⟩,lE,P0u b hw m,vS,gP ⟨rfl,⟨by grind,by grind⟩,trivial⟩,lE,gP ⟨oo,trivial⟩];have V:=aH i hi;have aF:=aI i hi;have P:=VV (x7 b.2.1) i (p7 b.2.1).length;have P:0<=L4 b i/\L4 b i<=((p7 b.2.1).length:Int):=P;show lp (HQ c (i:Int) a q (Ap b i) o (A3 b i) g) (0,r)=g (_,o++[(A3 b i).getD 0 0],q++[Ap b i],BP (L4 b) (fun i=>x9 b.2.1 i) i r);refine(lF (n:=(x9 b.2.1 i).length) (by omega) (fun(k:Nat) (s:List u0)=>((k:Int),s)) (CM (L4 b i) (x9 b.2.1 i)) (fun k y=>y.length=r.length+2*k) (J:=fun y=>UU (i:Int) g (q++[Ap b i],o++[(A3 b i).getD 0 0],y)) (F:=HQ c (i:Int) a q (Ap b i) o (A3 b i) g) (fun u k y G hy=>?_) (fun k y G hy=>?_) (fun u y _=>?_) r rfl).trans ?_
  ·have hy:y.length=r.length+2*k:=hy;obtain⟨k1,k2⟩:=Ol G;have e4:((k:Int)).toNat=k:=rfl;show HQ c (i:Int) a q (Ap b i) o (A3 b i) g u ((k:Int),y)=_;rw[HQ,E,V,if_pos (by grind),gP ⟨oo,trivial⟩];show _=u (_,CM (L4 b i) (x9 b.2.1 i) k y);refine(lF (n:=2) (by decide) (fun(t:Nat) (x:List u0)=>((t:Int),x)) (VY (L4 b i) ((x9 b.2.1 i).getD k 0) (k:Int)) (fun t x=>x.length=y.length+t) (J:=fun x=>UW (k:Int) u x) (F:=NG c (i:Int) a (k:Int) u) (fun Q t x ht hx=>?_) (fun t x ht hx=>?_) (fun Q x _=>?_) y rfl).trans ?_
   ·have hx:x.length=y.length+t:=hx;show NG c (i:Int) a (k:Int) u Q ((t:Int),x)=_;rw[NG,E,e4,V,aF,if_pos (decide_eq_true (by omega)),gP ⟨oo,by omega,oo,oo,oo,oo,⟨by grind,by grind⟩,trivial⟩,lE];exact gP ⟨oo,trivial⟩
   ·grind[VY,List.length_append]
   ·grind[NG]
   ·exact gP ⟨oo,trivial⟩
  ·grind[VZ]
  ·show HQ c (i:Int) a q (Ap b i) o (A3 b i) g u (((x9 b.2.1 i).length:Int),y)=_
   grind[HQ]
  ·exact gP ⟨oo,trivial⟩
 ·obtain⟨o,q,r⟩:=s;obtain⟨e,i2,i3⟩:=j;have e:o.length=i:=e;have i2:q.length=i:=i2;have i3:r.length<=500+160*i:=i3;have T:=(BQ Y hi).s78;refine⟨by show(o++_).length=_; grind,by show(q++_).length=_; grind,?_⟩;show(BP (L4 b) (fun i=>x9 b.2.1 i) i r).length<=_;unfold BP
  grind[Rp]
 ·rw[k0J]
end Go.Proofs.YtechodbafnmddaaGreatDoor
end
section
namespace Go.Proofs.Xd
open Go Go.Proofs Go.Proofs.Xl
def A0(x:Nat->G9):Nat->Nat
 | 0=>0
 | i+1=>A0 x i+(x i).2.2.length
theorem n0J(x:G9)(i:Int)(d:C0)(s:List C0):∀n k,k<n->(fN (V9 x i) n s).getD (s.length+k) d=(i,(k:Int),x.2.2.getD k 0,(k:Int)==(x.2.2.length:Int)-1)
 | n+1,k,h=>by
   have b:=Ih x i s n;have a:=n0J x i d s n k
   grind[V9,fN]
theorem n0I(x:G9)(i:Int)(d:C0)(s:List C0):∀n j,j<s.length->(fN (V9 x i) n s).getD j d=s.getD j d
 | 0,_,_=>rfl
 | n+1,j,h=>by
   have b:=Ih x i s n;have a:=n0I x i d s n j h
   grind[V9,fN,Kp]
theorem Om(x:Nat->G9):∀n,(fN (Q9 x) n []).length=A0 x n
 | 0=>rfl
 | n+1=>by
   have:=Om x n;show(Q9 x n (fN (Q9 x) n [])).length=_;unfold Q9;rw[Ih];show(fN (Q9 x) n []).length+_=_;rw[this]; rfl
theorem j0c(x:Nat->G9)(d:C0):∀n i k,i<n->k < (x i).2.2.length->(fN (Q9 x) n []).getD (A0 x i+k) d=((i:Int),(k:Int),(x i).2.2.getD k 0,(k:Int)==((x i).2.2.length:Int)-1)
 | n+1,i,k,hi,hk=>by
   have b:=Om x n;have a:=j0c x d n i k;show(Q9 x n (fN (Q9 x) n [])).getD _ d=_;generalize fN (Q9 x) n []=z at b a;unfold Q9;rcases Nat.lt_or_ge i n with h | h
   ·have c:A0 x i+k<z.length:=by
     rw[b];have:∀m,i<m->A0 x i+(x i).2.2.length<=A0 x m:=by
      intro m
      induction m with
      | zero=>omega
      | succ m a =>
        grind[A0,Nat.lt_or_ge]
     have:=this n h;omega
    grind[n0I]
   grind[n0J]
theorem n0g(y:Nat->P3)(d:C0)(s:List C0):∀n j,j<s.length->(fN (S5 y) n s).getD j d=s.getD j d
 | 0,_,_=>rfl
 | n+1,j,h=>by
   have b:=NY y s n;have a:=n0g y d s n j h
   grind[S5,fN,Kp]
theorem n0h(y:Nat->P3)(d:C0)(s:List C0):∀n k,k<n->(fN (S5 y) n s).getD (s.length+k) d=(-1,(k:Int),(y k).2.2,(y k).2.1==1)
 | n+1,k,h=>by
   have b:=NY y s n;have a:=n0h y d s n k
   grind[S5,fN]
theorem q0M(x:Nat->G9):∀n j,j<A0 x n->∃i k,i<n/\k < (x i).2.2.length/\j=A0 x i+k
 | n+1,j,h=>by
   have h:j<A0 x n+(x n).2.2.length:=h;rcases Nat.lt_or_ge j (A0 x n) with a | a
   ·obtain⟨i,k,d,b,c⟩:=q0M x n j a;exact⟨i,k,by omega,b,c⟩
   ·exact⟨n,j-A0 x n,by omega,by omega,by omega⟩
theorem On(x:Nat->G9){i n k:Nat}(hi:i<n)(b:k < (x i).2.2.length):A0 x i+k<A0 x n:=by
 induction n with
 | zero=>omega
 | succ n a =>
   grind[A0,Nat.lt_or_ge]
theorem Kv(ni np:Nat)(x:Nat->G9)(y:Nat->P3):(P5 ni np x y).length=A0 x ni+np:=by
 grind[P5,NY,Om]
theorem Rx(ni np:Nat)(x:Nat->G9)(y:Nat->P3)(d:C0){i k:Nat}(hi:i<ni)(a:k < (x i).2.2.length):(P5 ni np x y).getD (A0 x i+k) d=((i:Int),(k:Int),(x i).2.2.getD k 0,(k:Int)==((x i).2.2.length:Int)-1):=by
 grind[P5,n0g,Om,On,j0c]
theorem j0b(ni np:Nat)(x:Nat->G9)(y:Nat->P3)(d:C0){k:Nat}(a:k<np):(P5 ni np x y).getD (A0 x ni+k) d=(-1,(k:Int),(y k).2.2,(y k).2.1==1):=by
 grind[P5,Om,n0h]
theorem s0s(ni np:Nat)(x:Nat->G9)(y:Nat->P3)(d:C0){i k:Nat}(hi:i<ni)(f:k < (x i).2.2.length){j:Nat}(b:j < (P5 ni np x y).length):(((P5 ni np x y).getD j d).1==(i:Int)&&((P5 ni np x y).getD j d).2.1==(k:Int))=decide (j=A0 x i+k):=by
 rw[Bool.eq_iff_iff,ba,beq_iff_eq,beq_iff_eq,dq];rw[Kv] at b;constructor
 ·rintro⟨a,c⟩;rcases Nat.lt_or_ge j (A0 x ni) with h | h
  ·grind[q0M,Rx,Int.ofNat.inj]
  ·have e:j=A0 x ni+(j-A0 x ni):=by omega
   rw[e,j0b ni np x y d (by omega)] at a;omega
 grind[Rx]
def W4(P:Nat->Bool)(m:Nat):Nat:=fN (fun i s=>if P i=true then s+1 else s) m 0
theorem Fq(P:Nat->Bool)(m:Nat):W4 P (m+1)=if P m=true then W4 P m+1 else W4 P m:=rfl
theorem r0C{P:Nat->Bool}:∀{m i:Nat},i<m->P i=true->1<=W4 P m
 | m+1,i,h,hp=>by
   rw[Fq];rcases Nat.lt_or_ge i m with a | a
   ·have:=r0C a hp; split <;> omega
   grind
theorem Wn{P:Nat->Bool}:∀{m i j:Nat},i<j->j<m->P i=true->P j=true->2<=W4 P m
 | m+1,i,j,h1,h2,hi,hj=>by
   rw[Fq];rcases Nat.lt_or_ge j m with a | a
   ·have:=Wn h1 a hi hj; split <;> omega
   ·have:j=m:=by omega
    subst this;have:=r0C h1 hi
    grind
theorem w0y{P:Nat->Bool}:∀{m:Nat},1<=W4 P m->∃i,i<m/\P i=true
 | 0,h=>by grind[W4,fN]
 | m+1,h=>by
   rw[Fq] at h;by_cases a:P m=true
   ·grind
   ·rw[if_neg a] at h;obtain⟨i,b,c⟩:=w0y h
    grind
def Aq(pl:Nat->C0)(t:Int)(j:Nat):Bool:=(pl j).2.2.1==t&&(pl j).2.2.2
theorem n0X{pl:Nat->C0}{t:Int}:∀{m i:Nat},i<m->Aq pl t i=true->(∀j,i<j->j<m->Aq pl t j=false)->W2 pl t m=(i:Int)
 | m+1,i,h,hi,hn=>by
   have e:W2 pl t (m+1)=if Aq pl t m=true then(m:Int) else W2 pl t m:=rfl
   rw[e];rcases Nat.lt_or_ge i m with a | a
   ·rw[if_neg (by grind)];exact n0X a hi (fun j b c=>hn j b (by omega))
   grind
theorem E0E{pl:Nat->C0}{t:Int}{m:Nat}(h:W4 (Aq pl t) m=1):∃i,i<m/\Aq pl t i=true/\(∀j,j<m->Aq pl t j=decide (j=i))/\W2 pl t m=(i:Int):=by
 obtain⟨i,a,d⟩:=w0y (Nat.le_of_eq h.symm);have f:∀j,j<m->Aq pl t j=true->j=i:=fun j b g=>by
  rcases Nat.lt_trichotomy i j with c | c | c
  ·grind[Wn]
  ·omega
  grind[Wn]
 refine⟨i,a,d,fun j b=>?_,n0X a d (fun j e b=>?_)⟩
 ·grind
 grind
theorem r0D(P:Nat->Bool)(m:Nat):∀n,W4 P (m+n)=W4 P m+W4 (fun i=>P (m+i)) n
 | 0=>rfl
 | n+1=>by
   rw[<- Nat.add_assoc,Fq,Fq,r0D P m n];split <;> omega
theorem w0x{P:Nat->Bool}{n:Nat}(h:∀i,i<n->P i=false):W4 P (n+1)=if P n=true then 1 else 0:=by
 have:∀m,m<=n->W4 P m=0:=by
  intro m
  induction m with
  | zero=>intro _; rfl
  | succ m a=>intro b; rw[Fq,h m (by omega),if_neg (by simp),a (by omega)]
 rw[Fq,this n (Nat.le_refl _)]
theorem r0l{ni np:Nat}{x:Nat->G9}{y:Nat->P3}{d:C0}{a:Nat}(l:∀i,i<ni->1<=(x i).2.2.length/\j6 ((x i).2.2.getD ((x i).2.2.length-1) 0) 0 ((a:Int)-1)=true):∀n,n<=ni->(fN (V8 x) n (List.replicate a 0)).length=a/\∀t:Nat,t<a->(fN (V8 x) n (List.replicate a 0)).getD t 0=(W4 (Aq (fun j=>(P5 ni np x y).getD j d) t) (A0 x n):Nat)
 | 0,_=>⟨List.length_replicate,fun t g=>by
   show(List.replicate a (0:Int)).getD t 0=_;rw[gq,List.getElem?_replicate,if_pos g]; rfl⟩
 | n+1,hn=>by
   obtain⟨o,s⟩:=r0l (np:=np) (y:=y) (d:=d) l n (by omega);obtain⟨w,c⟩:=l n (by omega);have c:=B3.1 c;have e:fN (V8 x) (n+1) (List.replicate a 0)=V8 x n (fN (V8 x) n (List.replicate a 0)):=rfl;rw[e];generalize fN (V8 x) n (List.replicate a 0)=v at o s;unfold V8 CK;refine⟨by grind,fun t g=>?_⟩;rw[VW (by omega)];show _=((W4 _ (A0 x n+(x n).2.2.length):Nat):Int);rw[r0D];have f:∀k,k < (x n).2.2.length->Aq (fun j=>(P5 ni np x y).getD j d) t (A0 x n+k)=((x n).2.2.getD k 0==(t:Int)&&(k:Int)==((x n).2.2.length:Int)-1):=fun k f=>by
    grind[Aq,P5,A0,Rx]
   obtain⟨m,h⟩:∃m,(x n).2.2.length=m+1:=⟨(x n).2.2.length-1,by omega⟩;have b:(x n).2.2.length-1=m:=by omega
   rw[b] at c;rw[b,h,w0x (fun i hi=>by grind),f m (by omega),h];have u:((m:Int)==((m+1:Nat):Int)-1)=true:=by simp
   rw[u,Bool.and_true];have q:((x n).2.2.getD m 0==(t:Int))=decide (t=((x n).2.2.getD m 0).toNat):=by
    rw[Bool.eq_iff_iff,beq_iff_eq,dq];omega
   rw[q];by_cases r:t=((x n).2.2.getD m 0).toNat
   ·grind
   grind
theorem q0G{ni np:Nat}{x:Nat->G9}{y:Nat->P3}{d:C0}{a:Nat}(b:∀i,i<ni->1<=(x i).2.2.length/\j6 ((x i).2.2.getD ((x i).2.2.length-1) 0) 0 ((a:Int)-1)=true)(c:∀i,i<np->j6 (y i).2.2 0 ((a:Int)-1)=true):∀n,n<=np->(fN (O5 y) n (fN (V8 x) ni (List.replicate a 0))).length=a/\∀t:Nat,t<a->(fN (O5 y) n (fN (V8 x) ni (List.replicate a 0))).getD t 0=(W4 (Aq (fun j=>(P5 ni np x y).getD j d) t) (A0 x ni+n):Nat)
 | 0,_=>r0l b ni (Nat.le_refl _)
 | n+1,hn=>by
   obtain⟨f,k⟩:=q0G (d:=d) b c n (by omega);have o:=B3.1 (c n (by omega));have e:fN (O5 y) (n+1) (fN (V8 x) ni (List.replicate a 0))=O5 y n (fN (O5 y) n (fN (V8 x) ni (List.replicate a 0))):=rfl;rw[e];generalize fN (O5 y) n (fN (V8 x) ni (List.replicate a 0))=v at f k;have h:∀t:Nat,Aq (fun j=>(P5 ni np x y).getD j d) t (A0 x ni+n)=((y n).2.2==(t:Int)&&(y n).2.1==1):=fun t=>by
    grind[Aq,P5,A0,j0b]
   have g:∀t:Nat,((y n).2.2==(t:Int))=decide (t=(y n).2.2.toNat):=fun t=>by
    grind
   unfold O5;split
   ·rename_i l;unfold CK;refine⟨by grind,fun t m=>?_⟩;rw[VW (by omega),<- Nat.add_assoc,Fq,h,g,l]
    grind
   grind[Nat.add_assoc,Fq]
def Ir(f:Int)(a:G5)(j:Nat)(t:Nat):u0:=(2*(f+a.2.1)+((K3 a.1 a.2.2.2.1).getD t (0,0)).1,2*(f+a.2.2.1)+((K3 a.1 a.2.2.2.1).getD t (0,0)).2,1,(j:Int))
def Fs(d s:Int)(k t:Nat):u0:=(2*d+(t:Int),2*s+(t:Int),2,(k:Int))
theorem l0m{f a b x:Int}{c:List (Int×Int)}{s:List u0}{l:u0}:∀k,l∈fN (AK f a b x c) k s->l∈s∨∃t,t<k/\l=(2*(f+a)+(c.getD t (0,0)).1,2*(f+b)+(c.getD t (0,0)).2,1,x)
 | 0,h=>.inl h
 | k+1,h=>by
   rcases List.mem_append.1 (show l∈fN (AK f a b x c) k s++[_] from h) with h | h
   ·rcases l0m k h with h | ⟨t,ht,e⟩
    ·exact .inl h
    ·exact .inr ⟨t,by omega,e⟩
   ·exact .inr ⟨k,by omega,List.mem_singleton.1 h⟩
theorem o0g{f:Int}{a:Nat->G5}{s:List u0}{l:u0}:∀m,l∈fN (U7 f a) m s->l∈s∨∃j t,j<m/\t < (K3 (a j).1 (a j).2.2.2.1).length/\l=Ir f (a j) j t
 | 0,h=>.inl h
 | m+1,h=>by
   rcases l0m _ (show l∈fN (AK f _ _ (m:Int) _) _ (fN (U7 f a) m s) from h) with h | ⟨t,ht,e⟩
   ·rcases o0g m h with h | ⟨j,t,hj,ht,e⟩
    ·exact .inl h
    ·exact .inr ⟨j,t,by omega,ht,e⟩
   ·exact .inr ⟨m,t,by omega,ht,e⟩
theorem Wo{a:Nat->Nat}{b:Nat->Nat->G5}{ms:Nat->Nat}{x:Nat->G9}(c:∀i,a i=(x i).2.2.length):∀m,(fN (Y6 a b ms) m (0,[])).1=(A0 x m:Int)
 | 0=>rfl
 | m+1=>by
   show(fN (Y6 a b ms) m (0,[])).1+(a m:Int)=((A0 x m+(x m).2.2.length:Nat):Int);rw[Wo c m,c m]; omega
theorem l0a{b:Nat->Nat}{a:Nat->Nat->G5}{ms:Nat->Nat}{x:Nat->G9}(c:∀i,b i=(x i).2.2.length){l:u0}:∀m,l∈(fN (Y6 b a ms) m (0,[])).2->∃i j t,i<m/\j<ms i/\t < (K3 (a i j).1 (a i j).2.2.2.1).length/\l=Ir (A0 x i:Int) (a i j) j t
 | 0,h=>by cases h
 | m+1,h=>by
   rcases List.mem_append.1 (show l∈(fN (Y6 b a ms) m (0,[])).2++Bj _ _ _ from h) with h | h
   ·obtain⟨i,j,t,hi,d⟩:=l0a c m h;exact⟨i,j,t,by omega,d⟩
   ·rcases o0g _ h with h | ⟨j,t,hj,ht,e⟩
    ·cases h
    ·rw[Wo c m] at e;exact⟨m,j,t,by omega,hj,ht,e⟩
theorem k0f{d:Int}{a:List Int}{z:List u0}{l:u0}:∀k,l∈fN (CM d a) k z->l∈z∨∃j t,j<k/\t<2/\l=Fs d (a.getD j 0) j t
 | 0,h=>.inl h
 | k+1,h=>by
   have h:l∈(fN (CM d a) k z++[Fs d (a.getD k 0) k 0])++[Fs d (a.getD k 0) k 1]:=h;rcases List.mem_append.1 h with h | h
   ·rcases List.mem_append.1 h with h | h
    ·rcases k0f k h with h | ⟨j,t,hj,ht,e⟩
     ·exact .inl h
     ·exact .inr ⟨j,t,by omega,ht,e⟩
    ·exact .inr ⟨k,0,by omega,by omega,List.mem_singleton.1 h⟩
   ·exact .inr ⟨k,1,by omega,by omega,List.mem_singleton.1 h⟩
theorem n0u{d:Nat->Int}{a:Nat->List Int}{z:List u0}{l:u0}:∀m,l∈fN (BP d a) m z->l∈z∨∃i j t,i<m/\j < (a i).length/\t<2/\l=Fs (d i) ((a i).getD j 0) j t
 | 0,h=>.inl h
 | m+1,h=>by
   rcases k0f _ (show l∈fN (CM (d m) (a m)) _ (fN (BP d a) m z) from h) with h | ⟨j,t,hj,ht,e⟩
   ·rcases n0u m h with h | ⟨i,j,t,hi,hr⟩
    ·exact .inl h
    ·exact .inr ⟨i,j,t,by omega,hr⟩
   ·exact .inr ⟨m,j,t,by omega,hj,ht,e⟩
theorem Wp(f a b x:Int)(c:List (Int×Int))(s:List u0):∀k,fN (AK f a b x c) k s=s++fN (AK f a b x c) k []
 | 0=>(List.append_nil _).symm
 | k+1=>by
   show fN (AK f a b x c) k s++[_]=s++(fN (AK f a b x c) k []++[_]);rw[Wp f a b x c s k,List.append_assoc]
theorem o0h(f:Int)(a:Nat->G5)(s:List u0):∀m,fN (U7 f a) m s=s++Bj f a m
 | 0=>(List.append_nil _).symm
 | m+1=>by
   show U7 f a m (fN (U7 f a) m s)=s++U7 f a m (Bj f a m);rw[o0h f a s m];unfold U7;rw[Wp,Wp _ _ _ _ _ (Bj f a m),List.append_assoc]
end Go.Proofs.Xd
end
section
namespace Go.Proofs.YtechodbafnmddaaGreatDoor
open Go Go.Proofs Go.Proofs.Sv Go.Proofs.Xv Go.Proofs.Xl Go.Proofs.Xd
theorem Wq(l:List u0)(f t a b k i:Int)(h:0<=f/\f<=1000)(e:0<=t/\t<=1000)(d:0<=a/\a<=1)(c:0<=b/\b<=1)(g:l.length<=100000):FU l f t a b k i=some (l++[(2*f+a,2*t+b,k,i)]) :=
 gP ⟨oo,oo,oo,oo,⟨by grind,by grind⟩,trivial⟩
def I0W(k s:Int)(x y:Nat):Bool:=if(k==1)=true then s==3||(s==1)==((x:Int)==(y:Int)) else if(k==2)=true then(x:Int)==0 else if(k==3)=true then(x:Int)==1 else false
def Ft(k s f t i:Int)(x y:Nat)(l:List u0):List u0:=if I0W k s x y=true then l++[(2*f+(x:Int),2*t+(y:Int),1,i)] else l
theorem r0O(k s f t i:Int)(x y:Nat)(l:List u0):(Ft k s f t i x y l).length<=l.length+1:=by
 grind[Ft]
theorem o0n(k s f t i:Int)(x:Nat)(l:List u0):∀n,(fN (Ft k s f t i x) n l).length<=l.length+n
 | 0=>Nat.le_refl _
 | n+1=>by
   have h:=o0n k s f t i x l n
   grind[r0O,fN,Ft]
theorem r86(a:A6)(l:List u0)(f t i:Int)(k:0<=f/\f<=1000)(e:0<=t/\t<=1000)(m:l.length<=90000):Hr l a f t i=some (fN (fun x s=>fN (Ft a.1 a.2.2.2.1 f t i x) 2 s) 2 l):=by
 unfold Hr;refine lF (n:=2) (by decide) (fun(x:Nat) (s:List u0)=>((x:Int),s)) (fun x s=>fN (Ft a.1 a.2.2.2.1 f t i x) 2 s) (fun x s=>s.length<=l.length+2*x) (J:=fun s=>some s) (F:=PE f t i a) (fun g x s h b=>?_) (fun x s h b=>?_) (fun g s _=>by
  show PE f t i a g (((2:Nat):Int),s)=_;rw[PE];exact if_neg (by decide)) l (Nat.le_refl _)
 ·have b:s.length<=l.length+2*x:=b;refine(if_pos (decide_eq_true (by omega))).trans ?_;refine(lF (n:=2) (by decide) (fun(y:Nat) (s:List u0)=>((y:Int),s)) (Ft a.1 a.2.2.2.1 f t i x) (fun y s=>s.length<=l.length+2*x+y) (J:=fun s=>TR (x:Int) g s) (F:=TS f t (x:Int) i a g) (fun c y s j b=>?_) (fun y s j b=>?_) (fun c s _=>by
   grind[TS]) s b).trans ?_
  ·have b:s.length<=l.length+2*x+y:=b;have d:∀v,PD (y:Int) c v=c (((y+1:Nat):Int),v):=fun v=>gP ⟨oo,trivial⟩;have o:∀v,FV (y:Int) s f t (x:Int) i c v=c (((y+1:Nat):Int),if v=true then s++[(2*f+(x:Int),2*t+(y:Int),1,i)] else s):=fun v=>by
    cases v with
    | true=>rw[FV,if_pos rfl,if_pos rfl,Wq s f t x y 1 i k e (by omega) (by omega) (by omega),gP ⟨rfl,trivial⟩,vS,lE,d]
    | false=>grind[FV]
   refine(if_pos (decide_eq_true (by omega))).trans ?_
   grind[Ft,I0W]
  ·grind[r0O]
  ·exact gP ⟨oo,trivial⟩
 grind[o0n]
theorem VI{k s:Int}(h:(k=1/\(s=1∨s=2∨s=3))∨k=2∨k=3)(a A B i:Int)(l:List u0):fN (fun x z=>fN (Ft k s (a+A) (a+B) i x) 2 z) 2 l=fN (AK a A B i (K3 k s)) (K3 k s).length l:=by
 rcases h with ⟨rfl,rfl | rfl | rfl⟩ | rfl | rfl <;> rfl
theorem r87(d:q9)(m:wf y53 d){l:List l5}(b:DF l d){i k:Nat}(hi:i<d.1.length)(e:k < (j9 d i).2.2.length):Z9 d (i:Int) (k:Int)=some ((A0 (j9 d) i+k:Nat):Int)/\A0 (j9 d) i+k < (p7 d).length:=by
 have q:=b.len;have c:A0 (j9 d) i+k < (p7 d).length:=by
  have:=On (j9 d) hi e;unfold p7;rw[Kv]; omega
 refine⟨?_,c⟩;unfold Z9;rw[Gz d m b.fac.ni14 b.fac.np8 b.pin,vS,gP ⟨rfl,trivial⟩,lE];have o:∀j,j < (p7 d).length->((x7 d j).1==(i:Int)&&(x7 d j).2.1==(k:Int))=decide (j=A0 (j9 d) i+k):=fun j a=>s0s d.1.length d.2.2.length (j9 d) (B7 d) (a6 y235) hi e a;have h:=DA (n:=(p7 d).length) (by omega) (fun j=>(x7 d j).1==(i:Int)&&(x7 d j).2.1==(k:Int)) (F:=ZF (p7 d) (i:Int) (k:Int)) (fun g j a=>by
  have f:((j:Int)).toNat=j:=rfl;refine(if_pos (by grind)).trans ?_;rw[f,gP ⟨oo,a,(fun _=>oo),(fun _=>a),trivial⟩,gP ⟨oo,trivial⟩]) (fun g=>aE)
 grind
theorem E0F{b:j0}(j:x5 b=true){t:Nat}(m:t<b.2.2.length):W4 (Aq (x7 b.2.1) t) (p7 b.2.1).length=1:=by
 obtain⟨h,g,_⟩:=Y7 j;have e:=W3 h;have f:Dz _ _ _ _ _ _ _ _ _=true:=h;unfold Dz at f;rw[ba] at f;have k:∀i,i<b.2.1.1.length->1<=(j9 b.2.1 i).2.2.length/\j6 ((j9 b.2.1 i).2.2.getD ((j9 b.2.1 i).2.2.length-1) 0) 0 ((b.2.1.2.1.length:Int)-1)=true:=fun i hi=>by
  have c:=(e.pin i hi).1;exact⟨c,e.fac.net.1 i hi _ (by omega)⟩
 obtain⟨o,l⟩:=q0G (d:=a6 y235) k (fun i hi=>e.fac.net.2 i hi) b.2.1.2.2.length (Nat.le_refl _);have a:=Km (p:=fun x=>x==1) f.2 (i:=t) (by
  grind[Gx])
 have c:(Gx b.2.1.1.length b.2.1.2.2.length b.2.1.2.1.length (j9 b.2.1) (B7 b.2.1)).getD t 0=1:=beq_iff_eq.1 a;have n:=l t (by omega);unfold Gx at c
 grind[Kv,Int.ofNat.inj]
theorem r88(b:j0)(k:wf j3 b)(c:x5 b=true){t:Nat}(f:t<b.2.2.length):LU b.2.1 (t:Int)=some (L4 b t)/\0<=L4 b t/\(L4 b t).toNat < (p7 b.2.1).length:=by
 have a:=W3 (Y7 c).1;have q:=a.len;obtain⟨i,m,r,s,l⟩:=E0E (E0F c f);have o:L4 b t=(i:Int):=l;refine⟨?_,by omega,by omega⟩;unfold LU;rw[Gz b.2.1 k.2.1 a.fac.ni14 a.fac.np8 a.pin,vS,gP ⟨rfl,trivial⟩,lE];have h:=DA (n:=(p7 b.2.1).length) (by omega) (Aq (x7 b.2.1) t) (F:=ZA (p7 b.2.1) (t:Int)) (fun g j d=>by
  have e:((j:Int)).toNat=j:=rfl;refine(if_pos (by grind)).trans ?_;rw[e,gP ⟨oo,d,(fun _=>oo),(fun _=>d),trivial⟩,gP ⟨oo,trivial⟩];rfl) (fun g=>aE)
 grind
theorem o0l{c:l5}(h:CO I2 c=true){j:Nat}(a:j<c.2.2.2.1.length):I2 c.2.2.1.length (r6 c) (j7 c j)=true:=by
 grind[Y4,I2,Ic]
theorem r0N{n:Nat}{p:Nat->P2}{a:G5}(h:I2 n p a=true)(c:a.1<=3):((a.1=1/\(a.2.2.2.1=1∨a.2.2.2.1=2∨a.2.2.2.1=3))∨a.1=2∨a.1=3)/\I8 a.2.2.2.2.1 true=true/\I8 a.2.2.2.2.2 true=true:=by
 unfold I2 at h;simp only[ba] at h;obtain⟨_,h⟩:=h;by_cases b:a.1=1
 ·rw[if_pos b] at h;simp only[ba] at h
  grind[B3]
 grind
theorem s0i{k s:Int}(h:3<k):K3 k s=[]:=by
 grind[K3]
theorem s0j{k s:Int}(h:0 < (K3 k s).length):k=1∨k=2∨k=3:=by
 grind[K3]
def Is(b:j0)(i:Nat)(s:List u0):List u0:=s++Bj (A0 (j9 b.2.1) i) (j7 (v8 b i)) (v8 b i).2.2.2.1.length
theorem Ws(b:j0):∀n,fN (Is b) n []=(fN (BR b) n (0,[])).2
 | 0=>rfl
 | n+1=>by
   show Is b n (fN (Is b) n [])=(fN (BR b) n (0,[])).2++Bj (fN (BR b) n (0,[])).1 (j7 (v8 b n)) (v8 b n).2.2.2.1.length;have a:(fN (BR b) n (0,[])).1=(A0 (j9 b.2.1) n:Int):=Wo (fun _=>rfl) n;rw[Ws b n,a]; rfl
theorem s0l{b:j0}(a:DF b.1 b.2.1){t:Int}{k:Nat}(c:k < (x9 b.2.1 t).length):0<=(x9 b.2.1 t).getD k 0/\(x9 b.2.1 t).getD k 0<=1000:=by
 have:=Ol c;have:=a.len;omega
theorem Wt(b:j0)(V:wf j3 b)(r:x5 b=true):AA b=some (lV b):=by
 obtain⟨G,l,u⟩:=Y7 r;have d:=W3 G;have T:=V.2.1;have aB:=d.fac.ni14;have aA:=d.fac.nn30;have aC:=d.len;unfold AA;refine(lF (n:=b.2.1.1.length) (by omega) (fun(i:Nat) (s:List u0)=>((i:Int),s)) (Is b) (fun i s=>s.length<=32*i) (J:=PF b) (F:=ZK b) (fun g i s hi c=>?_) (fun i s hi c=>?_) (fun g s _=>aE) [] (Nat.le_refl _)).trans ?_
 ·have c:s.length<=32*i:=c;have e3:((i:Int)).toNat=i:=rfl;obtain⟨Q,t,x3⟩:=GB d hi;obtain⟨c1,c2,c3,c4⟩:=GC t;have a:=fun k e=>r87 b.2.1 T d (i:=i) (k:=k) hi e;refine(if_pos (by grind)).trans ?_;rw[e3,gP ⟨oo,Q,trivial⟩,lE];refine(lF (n:=(v8 b i).2.2.2.1.length) (by omega) (fun(j:Nat) (z:List u0)=>((j:Int),z)) (U7 (A0 (j9 b.2.1) i) (j7 (v8 b i))) (fun j z=>z.length<=s.length+4*j) (J:=TU (i:Int) g) (F:=ZJ (v8 b i) b (i:Int) g) (fun h j z w hz=>?_) (fun j z w hz=>?_) (fun h z _=>aE) s (Nat.le_refl _)).trans ?_
  ·have hz:z.length<=s.length+4*j:=hz;have E:((j:Int)).toNat=j:=rfl;obtain⟨a1,a2,a3,a4⟩:=c4 j w;have ha:=o0l t w;have W:∀v,LV (j:Int) h v=h (((j+1:Nat):Int),v):=fun v=>gP ⟨oo,trivial⟩;refine(if_pos (by grind)).trans ?_;rw[E,gP ⟨oo,trivial⟩];show(if decide ((j7 (v8 b i) j).1<=3)=true then _ else _)=h (((j+1:Nat):Int),U7 (A0 (j9 b.2.1) i) (j7 (v8 b i)) j z);by_cases e:(j7 (v8 b i) j).1<=3
   ·refine(if_pos (decide_eq_true e)).trans ?_;obtain⟨k1,k2,k3⟩:=r0N ha e;obtain⟨A,hA⟩:∃A:Nat,(j7 (v8 b i) j).2.1=(A:Int):=⟨(j7 (v8 b i) j).2.1.toNat,by omega⟩;obtain⟨B,hB⟩:∃B:Nat,(j7 (v8 b i) j).2.2.1=(B:Int):=⟨(j7 (v8 b i) j).2.2.1.toNat,by omega⟩;obtain⟨fA,lA⟩:=a A (by omega);obtain⟨fB,lB⟩:=a B (by omega);have P:=r86 (j7 (v8 b i) j) z ((A0 (j9 b.2.1) i+A:Nat):Int) ((A0 (j9 b.2.1) i+B:Nat):Int) (j:Int) (by omega) (by omega) (by omega);have X:=VI k1 (A0 (j9 b.2.1) i:Int) (A:Int) (B:Int) (j:Int) z;rw[<- Int.natCast_add,<- Int.natCast_add] at X;rw[X] at P;show gd (ix (j:Int) (v8 b i).2.2.2.1.length/\ix (j:Int) (v8 b i).2.2.2.1.length/\(Z9 b.2.1 (i:Int) (j7 (v8 b i) j).2.1).isSome=true/\ix (j:Int) (v8 b i).2.2.2.1.length/\(Z9 b.2.1 (i:Int) (j7 (v8 b i) j).2.2.1).isSome=true/\(Hr z (j7 (v8 b i) j) (vl (Z9 b.2.1 (i:Int) (j7 (v8 b i) j).2.1)) (vl (Z9 b.2.1 (i:Int) (j7 (v8 b i) j).2.2.1)) (j:Int)).isSome=true/\True) (lt (vl (Hr z (j7 (v8 b i) j) (vl (Z9 b.2.1 (i:Int) (j7 (v8 b i) j).2.1)) (vl (Z9 b.2.1 (i:Int) (j7 (v8 b i) j).2.2.1)) (j:Int))) fun v=>LV (j:Int) h v)=_;rw[hA,hB,fA,fB,vS,vS,P,vS,gP ⟨oo,oo,rfl,oo,rfl,rfl,trivial⟩,lE,W]
    grind[U7]
   ·refine(if_neg (by grind)).trans ?_;rw[W];unfold U7;rw[s0i (by omega)];rfl
  ·grind[VU]
  ·rw[o0h];exact gP ⟨oo,trivial⟩
 ·have c:s.length<=32*i:=c;obtain⟨Q,t,x3⟩:=GB d hi;have c3:=(GC t).2.2.1;have:=Oc (A0 (j9 b.2.1) i) (j7 (v8 b i)) (v8 b i).2.2.2.1.length
  grind[Is,List.length_append]
 ·have f:(fN (Is b) b.2.1.1.length []).length<=500:=by
   have:=Wm d b.2.1.1.length (Nat.le_refl _);rw[Ws];omega
  have x:fN (Is b) b.2.1.1.length []=Ku b:=Ws b _;unfold lV;rw[x] at f ⊢;generalize Ku b=z at f ⊢;unfold PF;rw[l];refine lF (n:=b.2.1.2.1.length) (by omega) (fun(i:Nat) (s:List u0)=>((i:Int),s)) (BP (L4 b) (fun i=>x9 b.2.1 i)) (fun i s=>s.length<=500+160*i) (J:=fun s=>some s) (F:=ZI b) (fun g i s hi c=>?_) (fun i s hi c=>?_) (fun g s _=>aE) z f
  ·have c:s.length<=500+160*i:=c;have q:i<b.2.2.length:=by omega
   have m:=(BQ r q).s78;obtain⟨d1,d2,d3⟩:=r88 b V r q;have es:By b.2.1 (i:Int)=some (x9 b.2.1 i):=Wk b.2.1 T d _;refine(if_pos (by grind)).trans ?_;rw[d1,vS,gP ⟨rfl,trivial⟩,lE,es,vS,gP ⟨rfl,trivial⟩,lE];refine(lF (n:=(x9 b.2.1 i).length) (by omega) (fun(k:Nat) (y:List u0)=>((k:Int),y)) (CM (L4 b i) (x9 b.2.1 i)) (fun k y=>y.length=s.length+2*k) (J:=TT (i:Int) g) (F:=ZH (L4 b i) (x9 b.2.1 i) (i:Int) g) (fun Y k y e H=>?_) (fun k y e H=>?_) (fun Y y _=>aE) s rfl).trans ?_
   ·have H:y.length=s.length+2*k:=H;have E:((k:Int)).toNat=k:=rfl;have o:=s0l d e;have p1:=Wq y (L4 b i) ((x9 b.2.1 i).getD k 0) 0 0 2 (k:Int) (by omega) o oo oo (by omega);have p2:=Wq (y++[(2*L4 b i+0,2*(x9 b.2.1 i).getD k 0+0,2,(k:Int))]) (L4 b i) ((x9 b.2.1 i).getD k 0) 1 1 2 (k:Int) (by omega) o oo oo (by grind);refine(if_pos (by grind)).trans ?_;rw[E,p1,vS,gP ⟨oo,e,rfl,trivial⟩,lE,p2,vS,gP ⟨oo,e,rfl,trivial⟩,lE];exact gP ⟨oo,trivial⟩
   ·grind[VZ]
   ·exact gP ⟨oo,trivial⟩
  ·have c:s.length<=500+160*i:=c;have m:=(BQ r (show i<b.2.2.length by omega)).s78;unfold BP
   grind[Rp]
theorem AL{b:j0}(a:x5 b=true):(lV b).length<=6000:=by
 have d:=W3 (Y7 a).1;have e:=d.fac.ni14;have g:=Wm d b.2.1.1.length (Nat.le_refl _);have h:=r0a (L4 b) (fun i=>x9 b.2.1 i) (Ku b) (n:=b.2.2.length) (c:=78) (fun i hi=>(BQ a hi).s78) b.2.2.length (Nat.le_refl _);have j:=(Y7 a).2.1;have f:=d.fac.nn30;have k:(Ku b).length=(fN (BR b) b.2.1.1.length (0,[])).2.length:=rfl
 grind[lV]
theorem v0Q{b:j0}{l:u0}(h:l∈lV b):(∃i j t,i<b.2.1.1.length/\j < (v8 b i).2.2.2.1.length/\t < (K3 (j7 (v8 b i) j).1 (j7 (v8 b i) j).2.2.2.1).length/\l=Ir (A0 (j9 b.2.1) i:Int) (j7 (v8 b i) j) j t) ∨
  ∃i k t,i<b.2.2.length/\k < (x9 b.2.1 i).length/\t<2/\l=Fs (L4 b i) ((x9 b.2.1 i).getD k 0) k t:=by
 rcases n0u _ h with h | h
 ·exact .inl (l0a (fun _=>rfl) _ h)
 grind
end Go.Proofs.YtechodbafnmddaaGreatDoor
end
section
namespace Go.Proofs.Xd
open Go Go.Proofs.Xv Go.Proofs.Xl
theorem z0u{xs:List Int}(h:I7 xs=true):∀i,0<i->i<xs.length->xs.getD (i-1) 0<xs.getD i 0:=by
 simp only[I7,ba,dq] at h;intro i a hi;have:=Dy.1 h.2 i hi;simp only[Bool.and_eq_false_iff,decide_eq_false_iff_not] at this;omega
theorem w0J{xs:List Int}(h:I7 xs=true):∀k i,i+k<xs.length->0<k->xs.getD i 0<xs.getD (i+k) 0:=by
 intro k
 induction k with
 | zero=>intro i _ d; omega
 | succ k b =>
   intro i hi _;have a:=z0u h (i+(k+1)) (by omega) hi;have e:i+(k+1)-1=i+k:=by omega
   rw[e] at a;by_cases c:k=0
   ·subst c; exact a
   ·have:=b i (by omega) (by omega); omega
theorem DC{xs:List Int}(h:I7 xs=true){i j:Nat}(a:i<j)(b:j<xs.length):xs.getD i 0<xs.getD j 0:=by
 have:=w0J h (j-i) i (by omega) (by omega);have e:i+(j-i)=j:=by omega
 rwa [e] at this
theorem Oo{xs:List Int}(h:I7 xs=true){i:Nat}(hi:i<xs.length):0<=xs.getD i 0/\xs.getD i 0<=100000:=by
 simp only[I7,ba,dq] at h;have a:=h.1.2;rw[List.all_eq_true] at a;have e:xs.getD i 0=xs[i]:=by rw[gq,List.getElem?_eq_getElem hi]; rfl
 rw[e];exact B3.1 (a _ (List.getElem_mem hi))
theorem q0q{t:Fk}(h:D2 t=true){i:Nat}(hi:i<t.2.2.length) : -1000000<=t.2.2.getD i 0/\t.2.2.getD i 0<=1000000:=by
 simp only[D2,ba,dq] at h;have a:=h.2;rw[List.all_eq_true] at a;have e:t.2.2.getD i 0=t.2.2[i]:=by rw[gq,List.getElem?_eq_getElem hi]; rfl
 rw[e];exact B3.1 (a _ (List.getElem_mem hi))
theorem w0K{xs:List Int}(h:I7 xs=true){x:Int}(_:xs.getD 0 0<=x)(l:x<=xs.getD (xs.length-1) 0):∃p,p<xs.length/\(∀i,i<p->xs.getD i 0<x)/\(∀i,p<=i->i<xs.length->x<=xs.getD i 0):=by
 have b:∀m,m<=xs.length->(∃p,p<m/\(∀i,i<p->xs.getD i 0<x)/\x<=xs.getD p 0)∨∀i,i<m->xs.getD i 0<x:=by
  intro m
  induction m with
  | zero=>exact fun _=>.inr fun i hi=>by omega
  | succ m j =>
    intro n;rcases j (by omega) with ⟨p,e,a,c⟩ | a
    ·exact .inl ⟨p,by omega,a,c⟩
    ·by_cases f:x<=xs.getD m 0
     ·exact .inl ⟨m,by omega,a,f⟩
     ·exact .inr fun i hi=>by
       by_cases d:i=m
       ·subst d; omega
       ·exact a i (by omega)
 have o:=Dw h;rcases b xs.length (Nat.le_refl _) with ⟨p,e,a,c⟩ | a
 ·refine⟨p,e,a,fun i g hi=>?_⟩;by_cases k:p=i
  ·subst k; exact c
  ·have:=DC h (by omega:p<i) hi; omega
 ·have:=a (xs.length-1) (by omega); omega
theorem GD{b a:Type}{F:(b->Option a)->b->Option a}{s:b}{r:Option a}(k:Nat)(c:k<=9223372036854775807)(h:∀n,K5 F (n+k) s=r):lp F s=r:=by
 have e:P7=(P7-k)+k:=by have:=Ry c; omega
 unfold lp;rw[e];exact h _
theorem D0Z(i j:Nat):((i:Int)+(j:Int)).fdiv ((2:Int) ^ Int.toNat (1:Int))=((((i+j) / 2:Nat)):Int):=by
 have e:(2:Int) ^ Int.toNat (1:Int)=2:=by decide
 rw[e,Int.fdiv_eq_ediv_of_nonneg _ (by omega)];omega
theorem L9{x y A B:Int}(c : -A<=x)(d:x<=A)(a:0<=y)(e:y<=B)(b:0<=A) : -(A*B)<=x*y/\x*y<=A*B:=by
 have h:x*y<=A*y:=Int.mul_le_mul_of_nonneg_right d a;have g:A*y<=A*B:=Int.mul_le_mul_of_nonneg_left e b;have f : -A*y<=x*y:=Int.mul_le_mul_of_nonneg_right c a;rw[Int.neg_mul] at f;omega
theorem Rz{p q b a:Nat}(d:p<b)(e:q<a):p*a+q<b*a:=by
 have c:(p+1)*a<=b*a:=Nat.mul_le_mul_right _ d;rw[Nat.add_mul,Nat.one_mul] at c;omega
end Go.Proofs.Xd
end
section
namespace Go.Proofs.Xd
open Go Go.Proofs Go.Proofs.Xl
def q8(a b m:Int):Int:=if(decide (a.tmod b<0)&&m==0)=true then a.tdiv b-1 else if(decide (0<a.tmod b)&&m==1)=true then a.tdiv b+1 else a.tdiv b
theorem GF{a b K:Int}(m:Int)(c:0<b)(j : -(K*b)<=a)(o:a<=K*b) : -K<=q8 a b m/\q8 a b m<=K:=by
 have e:=Int.mul_tdiv_add_tmod a b;have r:=Int.tmod_lt_of_pos a c;have s:=Int.lt_tmod_of_pos a c;have n:b*K=K*b:=Int.mul_comm _ _;have f:∀q:Int,b*q<b*K+b->q<=K:=fun q h=>by
  have:b*q<b*(K+1):=by rw[Int.mul_add,Int.mul_one]; exact h
  have:=Int.lt_of_mul_lt_mul_left this (Int.le_of_lt c);omega
 have d:∀q:Int,-(b*K)-b<b*q -> -K<=q:=fun q h=>by
  have:b*(-K-1)<b*q:=by rw[Int.mul_sub,Int.mul_one,Int.mul_neg]; exact h
  have:=Int.lt_of_mul_lt_mul_left this (Int.le_of_lt c);omega
 have g:∀q:Int,b*q<b*K->q<K:=fun q h=>Int.lt_of_mul_lt_mul_left h (Int.le_of_lt c);have i:∀q:Int,-(b*K)<b*q -> -K<q:=fun q h=>by
  have:b*(-K)<b*q:=by rw[Int.mul_neg]; exact h
  exact Int.lt_of_mul_lt_mul_left this (Int.le_of_lt c)
 have l:=f (a.tdiv b) (by omega);have k:=d (a.tdiv b) (by omega);unfold q8;split
 ·rename_i h;rw[ba,dq] at h;have:=i (a.tdiv b) (by omega);omega
 ·split
  ·rename_i h;rw[ba,dq] at h;have:=g (a.tdiv b) (by omega);omega
  ·omega
theorem E0g{b j:Type}{F:(b->Option j)->b->Option j}{J:b->Option j}(d:b->Nat)(I:b->Prop)(c:b->Bool)(nx:b->b)
  (f:∀g s,I s->F g s=if c s=true then g (nx s) else J s) (l:∀s,I s->c s=true->I (nx s)/\d (nx s)<d s) (s:b) (a:I s) (u:d s<=9223372036854775806):∃s',I s'/\c s'=false/\lp F s=J s':=by
 have h:∀(n:Nat) (s:b),d s<=n->I s->∃s',I s'/\c s'=false/\∀k,K5 F (k+(n+1)) s=J s':=by
  intro n
  induction n with
  | zero =>
    intro s q a;cases hc:c s with
    | true=>have:=(l s a hc).2; omega
    | false=>exact⟨s,a,hc,fun k=>by show F (K5 F k) s=_; rw[f _ _ a,hc]; rfl⟩
  | succ n t =>
    intro s q a;cases hc:c s with
    | true =>
      obtain⟨e,m⟩:=l s a hc;obtain⟨s',i,o,r⟩:=t (nx s) (by omega) e;refine⟨s',i,o,fun k=>?_⟩;show F (K5 F (k+(n+1))) s=_;rw[f _ _ a,hc,if_pos rfl];exact r k
    | false=>exact⟨s,a,hc,fun k=>by show F (K5 F (k+(n+1))) s=_; rw[f _ _ a,hc]; rfl⟩
 obtain⟨s',e,m,i⟩:=h (d s) s (Nat.le_refl _) a;exact⟨s',e,m,GD (d s+1) (by omega) i⟩
def BS(n r:Int):Prop:=0<=r/\r*r<=n/\n < (r+1)*(r+1)
theorem D0G{a b:Int}(c:0<=a)(h:a<=b):a*a<=b*b:=Int.mul_le_mul h h c (Int.le_trans c h)
theorem Wu{a b:Int}(c:0<=a)(h:a<b):a*a<b*b:=by
 have:=Int.mul_le_mul (show a+1<=b by omega) (show a+1<=b by omega) (by omega) (by omega);have e:(a+1)*(a+1)=a*a+2*a+1:=by rw[Int.add_mul,Int.mul_add,Int.one_mul,Int.mul_one]; omega
 omega
theorem r0d{a b:Int}(d:0<=b)(h:a*a<b*b):a<b:=by
 by_cases c:a<b
 ·exact c
 ·have:=D0G d (show b<=a by omega); omega
theorem Wv{l h:Int}(b:0<=l)(a:l<h):(l+h+1).tdiv 2=(l+h+1) / 2/\l < (l+h+1) / 2/\(l+h+1) / 2<=h:=by
 refine⟨Int.tdiv_eq_ediv_of_nonneg (by omega),by omega,by omega⟩
end Go.Proofs.Xd
end
section
namespace Go.Proofs.YtechodbafnmddaaGreatDoor
open Go Go.Proofs Go.Proofs.Xv Go.Proofs.Xl Go.Proofs.Xd
theorem W6(a b m:Int)(h : -1000000000000000000<=a)(j:a<=1000000000000000000)(d:0<b):Cr a b m=some (q8 a b m)/\X5 a b m=some (q8 a b m):=by
 have k:a.tdiv b<=1000000000000000000 /\ -1000000000000000000<=a.tdiv b:=by
  have i:(a.tdiv b).natAbs<=a.natAbs:=by
   rw[Int.natAbs_tdiv];exact Nat.div_le_self _ _
  omega
 have g:b7 (a.tdiv b-1)/\True:=⟨oo,trivial⟩;have f:b7 (a.tdiv b+1)/\True:=⟨oo,trivial⟩;unfold Cr X5 q8;rw[gP (V:=0<b/\0<b/\True) ⟨d,d,trivial⟩,gP (V:=0<b/\True) ⟨d,trivial⟩,gP (V:=0<b/\True) ⟨d,trivial⟩,gP g,gP f,Bool.and_comm (m==0),Bool.and_comm (m==1)];by_cases c:(decide (a.tmod b<0)&&m==0)=true
 ·rw[if_pos c,if_pos c]; exact⟨rfl,rfl⟩
 ·by_cases e:(decide (0<a.tmod b)&&m==1)=true
  ·rw[if_neg c,if_pos e,if_neg c,if_pos e]; exact⟨rfl,rfl⟩
  ·rw[if_neg c,if_neg e,if_neg c,if_neg e]; exact⟨rfl,rfl⟩
end Go.Proofs.YtechodbafnmddaaGreatDoor
end
section
namespace Go.Proofs.YtechodbafnmddaaGreatDoor
open Go Go.Proofs Go.Proofs.Sv Go.Proofs.Xv Go.Proofs.Xl Go.Proofs.Xd
theorem O0U(l:List l5)(d:q9)(a:DF l d){p:C0}(b:p∈p7 d):Hl l d p=some (GA l d p):=by
 unfold Hl GA;rcases Wl a b with h | ⟨h1,h2,h3,h4,h5,h6⟩
 ·grind
 ·refine(if_neg (by grind)).trans ?_;rw[if_neg (by omega),gP ⟨oo,⟨h3,by grind⟩,⟨h5,by grind⟩,trivial⟩];rfl
theorem O0V(xs:List Int)(h:xs.length<=1048576):Pw xs=some xs:=gP ⟨oo,trivial⟩
theorem M0G(b:j0)(w:wf j3 b){i:Nat}(h:NetOk b i):AU b (i:Int)=some (A3 b i):=by
 have u:=w.2.1;have df:=h.df;have hb:=w.2.2.1;have hi:=h.lt;have n1:=h.wf.n1;have n8:=h.wf.n8;have V:=h.sn;have hs:=h.s78;have z:=h.wf.cap;unfold AU;have e3:((i:Int)).toNat=i:=rfl;have G:By b.2.1 (i:Int)=some (x9 b.2.1 i):=Wk b.2.1 u df _;rw[gP ⟨oo,trivial⟩,lE,e3,O0V _ (by grind),vS,gP ⟨rfl,trivial⟩,lE,Gz b.2.1 u df.fac.ni14 df.fac.np8 df.pin,vS,gP ⟨rfl,trivial⟩,lE,G,vS,gP ⟨rfl,trivial⟩,lE];have m:=lF (n:=(x9 b.2.1 i).length) (by omega) (fun k (s:List Int)=>((k:Int),s)) (CL (r9 b i) (Y8 b i)) (fun k v=>Low v (j5 b i).1.length (500*((j5 b i).1.length:Int)+500*(k:Int))) (J:=Px (j5 b i)) (F:=Zl b (p7 b.2.1) (x9 b.2.1 i) (j5 b i)) (fun g k v c a=>by
  have H:((k:Int)).toNat=k:=rfl;obtain⟨y,o,t,W⟩:=h.capIn c;obtain⟨P,x⟩:=Ol c;have hv:=a.bd (by omega) (r9 b i k).toNat;have e:0<=(j5 b i).2.2.2.getD k 0:=y;have f:((j5 b i).2.2.2.getD k 0).toNat<v.length:=by rw[a.len]; exact o
  refine(if_pos (by grind)).trans ?_;rw[H,O0U b.1 b.2.1 df (Rv x),vS];rw[gP ⟨oo,⟨e,by omega⟩,f,oo,c,⟨P,by omega⟩,x,rfl,⟨by grind[r9,Y8],by grind[r9,Y8]⟩,⟨e,by omega⟩,f,trivial⟩,lE];exact gP ⟨oo,trivial⟩) (fun k v c a=>by
  obtain⟨y,o,t,W⟩:=h.capIn c;have:=a.add o t;refine⟨this.len,this.pos,Int.le_trans this.sum ?_⟩;omega) (fun g s _=>aE) (j5 b i).2.2.1 (by
  have:=h.low 0 (Nat.zero_le _);exact this)
 refine m.trans ?_;have l:=(h.low _ (Nat.le_refl _)).len;have j:=h.pull 0 (Nat.zero_le _);have Y:A3 b i=fN (Y5 (U9 b i) (j5 b i).1.length) ((j5 b i).1.length-1) (fN (CL (r9 b i) (Y8 b i)) (x9 b.2.1 i).length (j5 b i).2.2.1):=rfl;rw[Y];have q:=h.pull;generalize fN (CL (r9 b i) (Y8 b i)) (x9 b.2.1 i).length (j5 b i).2.2.1=v0 at l j q ⊢;rw[Px,l,gP ⟨oo,trivial⟩];have X:(((j5 b i).1.length:Int)-1,v0)=(fun(k:Nat) (s:List Int)=>(((j5 b i).1.length:Int)-1-(k:Int),s)) 0 v0:=by simp
 rw[X];exact lF (n:=(j5 b i).1.length-1) (by omega) (fun(k:Nat) (s:List Int)=>(((j5 b i).1.length:Int)-1-(k:Int),s)) (Y5 (U9 b i) (j5 b i).1.length) (fun k v=>Ko v (j5 b i).1.length k 43000) (J:=fun s=>some s) (F:=Jt (j5 b i)) (fun g k v c a=>by
  have Q:=h.wf.par ((j5 b i).1.length-1-k) (by omega) (by omega);have d:0<=(j5 b i).1.getD ((j5 b i).1.length-1-k) 0/\((j5 b i).1.getD ((j5 b i).1.length-1-k) 0).toNat < (j5 b i).1.length-1-k:=Q;have r:=a.len;have e6:((j5 b i).1.length:Int)-1-(k:Int)=(((j5 b i).1.length-1-k:Nat):Int):=by omega
  have T:((((j5 b i).1.length-1-k:Nat):Int)).toNat=(j5 b i).1.length-1-k:=rfl;have b1:=a.pos ((j5 b i).1.getD ((j5 b i).1.length-1-k) 0).toNat;have b2:=a.bd ((j5 b i).1.getD ((j5 b i).1.length-1-k) 0).toNat;have b3:=a.pos ((j5 b i).1.length-1-k);have b4:=a.bd ((j5 b i).1.length-1-k);have e8:((j5 b i).1.length:Int)-1-((k+1:Nat):Int)=(((j5 b i).1.length-1-k:Nat):Int)-1:=by omega
  show Jt (j5 b i) g (((j5 b i).1.length:Int)-1-(k:Int),v)=g (((j5 b i).1.length:Int)-1-((k+1:Nat):Int),Y5 (U9 b i) (j5 b i).1.length k v);rw[e8,e6];refine(if_pos (decide_eq_true (by omega))).trans ?_;rw[T,gP ⟨oo,⟨d.1,by omega⟩,by omega,oo,by omega,oo,⟨d.1,by omega⟩,by omega,trivial⟩,lE];exact gP ⟨oo,trivial⟩) (fun k v c a=>VP a c (h.wf.par _ (by omega) (by omega))) (fun g s _=>by
  have E:((j5 b i).1.length:Int)-1-(((j5 b i).1.length-1:Nat):Int)=0:=by omega
  show Jt (j5 b i) g (((j5 b i).1.length:Int)-1-(((j5 b i).1.length-1:Nat):Int),s)=some s;rw[E];have:Jt (j5 b i) g (0,s)=TF s:=by
   rw[Jt];exact if_neg (by decide)
  exact this.trans rfl) v0 j
theorem M0F(b:j0)(l:wf j3 b){i:Nat}(h:NetOk b i):Di b (i:Int)=some (A9 b i):=by
 have hi:=h.lt;have y:=l.2.2.1;have n1:=h.wf.n1;have n8:=h.wf.n8;have z:=h.wf.res;obtain⟨E,f⟩:=h.loads;have o:((i:Int)).toNat=i:=rfl;unfold Di;rw[M0G b l h,vS,gP ⟨oo,trivial⟩,lE,gP ⟨rfl,trivial⟩,lE,o];have x:((1:Int),[(0:Int)])=(fun(k:Nat) (s:List Int)=>(((k+1:Nat):Int),s)) 0 [0]:=rfl;rw[x];refine(lF (n:=(j5 b i).1.length-1) (by omega) (fun(k:Nat) (s:List Int)=>(((k+1:Nat):Int),s)) (U6 (U9 b i) (DB b i) (fun k=>(A3 b i).getD k 0)) (fun k s=>s.length=k+1/\∀j,0<=s.getD j 0/\s.getD j 0<=1000*43000*(k:Int)) (J:=fun s=>some s) (F:=TJ (j5 b i) (A3 b i)) (fun g k s r d=>?_) (fun k s r d=>?_) (fun g s d=>?_) [0] ?_)
 ·obtain⟨w,e⟩:=d;have u:=h.wf.par (k+1) (by omega) (by omega);have v:(((k+1:Nat):Int)).toNat=k+1:=rfl;have c:=h.wf.resIn (k+1) (by omega);have a:=f (k+1);have t:=Oa c.1 c.2 a.1 a.2;have q:=e ((j5 b i).1.getD (k+1) 0).toNat;refine(if_pos (by grind)).trans ?_;rw[v,gP ⟨oo,⟨u.1,by omega⟩,by omega,oo,oo,by omega,oo,oo,⟨by grind,by grind⟩,trivial⟩,lE];exact gP ⟨oo,trivial⟩
 ·obtain⟨w,e⟩:=d;have c:=h.wf.resIn (k+1) (by omega);have a:=f (k+1);have t:=Oa c.1 c.2 a.1 a.2
  grind[U9,U6,List.length_append,DB,A3,Nat.lt_or_ge,Kp,VR,List.getD_cons_zero,List.getD_cons_succ,List.getD_nil]
 ·have m:(j5 b i).1.length-1+1=(A3 b i).length:=by omega
  show TJ (j5 b i) (A3 b i) g ((((j5 b i).1.length-1+1:Nat):Int),s)=some s;rw[m];exact aE
 grind
def RA(b:j0)(i:Nat)(m:Int):List Int:=fN (Bk fun k=>q8 ((A9 b i).getD (r9 b i k).toNat 0) 1000 m) (x9 b.2.1 i).length []
theorem P0o(b:j0)(e:wf j3 b){i:Nat}(h:NetOk b i)(m:Int):Hp b (i:Int) m=some (RA b i m):=by
 have hi:=h.lt;have u:=e.2.2.1;have a:=h.sn;have v:=h.s78;obtain⟨o,l⟩:=h.delays;have j:((i:Int)).toNat=i:=rfl;unfold Hp;rw[M0F b e h,vS,gP ⟨rfl,trivial⟩,lE];unfold RA;rw[<- a];refine lF (n:=(j5 b i).2.2.2.length) (by omega) (fun(k:Nat) (s:List Int)=>((k:Int),s)) (Bk fun k=>q8 ((A9 b i).getD (r9 b i k).toNat 0) 1000 m) (fun k s=>s.length=k) (J:=fun s=>some s) (F:=Zr (A9 b i) b (i:Int) m) (fun g k s c d=>?_) (fun k s c d=>?_) (fun g s _=>?_) [] rfl
 ·have q:((k:Int)).toNat=k:=rfl;have f:0<=(b.2.2.getD i (a6 y172)).2.2.2.getD k 0/\((b.2.2.getD i (a6 y172)).2.2.2.getD k 0).toNat < (A9 b i).length:=by rw[o]; exact h.wf.snkIn k c
  have t:k < (b.2.2.getD i (a6 y172)).2.2.2.length:=c;have d:s.length=k:=d;have w:=l ((j5 b i).2.2.2.getD k 0).toNat;have r:=(W6 ((A9 b i).getD ((j5 b i).2.2.2.getD k 0).toNat 0) 1000 m (by omega) (by omega) (by decide)).2;refine(gP ⟨oo,trivial⟩).trans ?_;refine(if_pos (by grind)).trans ?_;rw[j,q,r,vS,gP ⟨oo,oo,⟨f.1,by omega⟩,by omega,rfl,⟨by grind,by grind⟩,trivial⟩,lE];exact gP ⟨oo,trivial⟩
 ·grind[Bk,List.length_append]
 ·refine(gP ⟨oo,trivial⟩).trans ?_;exact aE
theorem u0S{b:j0}{i k:Nat}{m:Int}(a:k < (x9 b.2.1 i).length):(RA b i m).getD k 0=q8 ((A9 b i).getD (r9 b i k).toNat 0) 1000 m:=Od _ 0 _ k a
theorem u0R(b:j0)(i:Nat)(m:Int):(RA b i m).length=(x9 b.2.1 i).length:=Ij _ _
end Go.Proofs.YtechodbafnmddaaGreatDoor
end
section
namespace Go.Proofs.Xd
open Go Go.Proofs Go.Proofs.Xl
def It(n:Int)(s:Int×Int):Int×Int:=if decide ((s.1+s.2+1).tdiv 2*(s.1+s.2+1).tdiv 2<=n)=true then((s.1+s.2+1).tdiv 2,s.2) else(s.1,(s.1+s.2+1).tdiv 2-1)
theorem v0I{F:(Int×Int->Option Int)->Int×Int->Option Int}{J:Int->Option Int}{n H:Int}(y:0<=n)(l:n < (H+1)*(H+1))(d:0<=H)(m:H<=3000000000)
  (i:∀g (s:Int×Int),0<=s.1->s.1<=s.2->s.2<=H->F g s=if decide (s.1<s.2)=true then g (It n s) else J s.1):∃r,BS n r/\r<=H/\lp F (0,H)=J r:=by
 obtain⟨f,⟨t,i2,i3,i4,i5⟩,b,v⟩:=E0g (J:=fun s:Int×Int=>J s.1) (fun s=>(s.2-s.1).toNat) (fun s=>0<=s.1/\s.1<=s.2/\s.2<=H/\s.1*s.1<=n/\n < (s.2+1)*(s.2+1)) (fun s=>decide (s.1<s.2)) (It n)
  (fun g s c=>i g s c.1 c.2.1 c.2.2.1) (fun s c b=>by
    obtain⟨h,x,k,o,u⟩:=c;have b:=of_decide_eq_true b;obtain⟨j,w,q⟩:=Wv h b;unfold It;rw[j];split
    ·rename_i a;have a:=of_decide_eq_true a;exact⟨⟨by show 0<=(s.1+s.2+1) / 2; omega,q,k,a,u⟩,by show(s.2-(s.1+s.2+1) / 2).toNat < (s.2-s.1).toNat; omega⟩
    ·rename_i a;have a:n < (s.1+s.2+1) / 2*((s.1+s.2+1) / 2):=by
      rw[dq] at a;omega
     refine⟨⟨h,by show s.1<=(s.1+s.2+1) / 2-1; omega,by show(s.1+s.2+1) / 2-1<=H; omega,o,?_⟩,by show((s.1+s.2+1) / 2-1-s.1).toNat < (s.2-s.1).toNat; omega⟩;show n < ((s.1+s.2+1) / 2-1+1)*((s.1+s.2+1) / 2-1+1);rw[Int.sub_add_cancel];exact a) (0,H) ⟨Int.le_refl _,d,Int.le_refl _,by show(0:Int)*0<=n; omega,l⟩ (by show(H-0).toNat<=_; omega)
 have b:=of_decide_eq_false b;have e:f.1=f.2:=by omega
 exact⟨f.1,⟨t,i4,by rw[e]; exact i5⟩,by omega,v⟩
theorem u0Y{n R Z:Int}(h:BS n R)(k:BS (4*n) Z):(Z=2*R∨Z=2*R+1)/\(R*R=n->Z=2*R/\Z*Z=4*n)/\(R*R<n->(Z=2*R/\Z*Z<4*n)∨(Z=2*R+1/\Z*Z<4*n)):=by
 obtain⟨g,m,c⟩:=h;obtain⟨f,o,l⟩:=k;have b:(2*R)*(2*R)=4*(R*R):=by rw[Int.mul_assoc,<- Int.mul_assoc R 2 R,Int.mul_comm R 2,Int.mul_assoc 2 R R]; omega
 have e:(2*R+2)*(2*R+2)=4*((R+1)*(R+1)):=by
  rw[show 2*R+2=2*(R+1) by omega,Int.mul_assoc,<- Int.mul_assoc (R+1) 2 (R+1),Int.mul_comm (R+1) 2,Int.mul_assoc 2 (R+1) (R+1)]; omega
 have d:(2*R+1)*(2*R+1)=4*(R*R)+4*R+1:=by
  rw[Int.add_mul,Int.mul_add,b]; omega
 have i:2*R<Z+1:=r0d (by omega) (by omega);have j:Z<2*R+2:=r0d (by omega) (by omega);have hz:Z=2*R∨Z=2*R+1:=by omega
 refine⟨hz,fun a=>?_,fun a=>?_⟩
 ·rcases hz with rfl | rfl
  ·exact⟨rfl,by omega⟩
  ·omega
 ·rcases hz with rfl | rfl
  ·exact .inl ⟨rfl,by omega⟩
  ·exact .inr ⟨rfl,by omega⟩
theorem Fu{a b:Int}(c:0<=a)(d:0<b):q8 a b 0=a / b:=by
 unfold q8;rw[Int.tdiv_eq_ediv_of_nonneg c,Int.tmod_eq_emod_of_nonneg c,if_neg,if_neg]
 ·simp
 ·have:=Int.emod_nonneg a (Int.ne_of_gt d);simp;omega
theorem BT{a b:Int}(c:0<=a)(_:0<b):q8 a b 1=if 0<a % b then a / b+1 else a / b:=by
 unfold q8;rw[Int.tdiv_eq_ediv_of_nonneg c,Int.tmod_eq_emod_of_nonneg c,if_neg (by simp)];by_cases h:0<a % b
 ·rw[if_pos h,if_pos (by simp[h])]
 ·rw[if_neg h,if_neg (by simp[h])]
def P8(n m R:Int):Int:=if(m==1&&decide (R*R<n))=true then R.tdiv 500+1 else q8 R 500 m
def Fv(N m Z:Int):Int:=if(m==1&&decide (Z*Z<N))=true then Z+1 else Z
theorem x0q{n R Z m:Int}(h:BS n R)(k:BS (4*n) Z)(c:m=0∨m=1):P8 n m R=q8 (Fv (4*n) m Z) 1000 m:=by
 obtain⟨i,f,g⟩:=u0Y h k;have a:=h.1;have d:=h.2.1;unfold P8 Fv;rcases c with rfl | rfl
 ·rw[if_neg (by simp),if_neg (by simp),Fu a (by decide),Fu k.1 (by decide)];omega
 ·by_cases b:R*R<n
  ·rw[if_pos (by simp[b]),Int.tdiv_eq_ediv_of_nonneg a];rcases g b with ⟨e,hz⟩ | ⟨e,hz⟩
   ·rw[if_pos (by simp[hz]),BT (by omega) (by decide),e];split <;> omega
   ·rw[if_pos (by simp[hz]),BT (by omega) (by decide),e];split <;> omega
  ·obtain⟨e,hz⟩:=f (by omega);rw[if_neg (by simp[b]),if_neg (by simp[hz]),BT a (by decide),BT k.1 (by decide),e];split <;> split <;> omega
end Go.Proofs.Xd
end
section
namespace Go.Proofs.YtechodbafnmddaaGreatDoor
open Go Go.Proofs Go.Proofs.Sv Go.Proofs.Xv Go.Proofs.Xl Go.Proofs.Xd
theorem q0p{q r:Int}(h:0<=q)(a:r=0∨r=1):(2*q+r).tdiv 2=q/\((2*q+r).tmod 2=0∨(2*q+r).tmod 2=1):=by
 grind
structure Oq(b:j0)(l:u0)(a:G5)(n:Nat):Prop where
 kind:l.2.2.1=1
 pix:ix (l.2.1.tdiv 2) (p7 b.2.1).length
 plt:(l.2.1.tdiv 2).toNat < (p7 b.2.1).length
 iix:ix (x7 b.2.1 (l.2.1.tdiv 2).toNat).1 b.2.1.1.length
 cix:ix (j9 b.2.1 (x7 b.2.1 (l.2.1.tdiv 2).toNat).1.toNat).2.1 b.1.length
 aix:ix l.2.2.2 (b.1.getD (j9 b.2.1 (x7 b.2.1 (l.2.1.tdiv 2).toNat).1.toNat).2.1.toNat (a6 y153)).2.2.2.1.length
 arc:(b.1.getD (j9 b.2.1 (x7 b.2.1 (l.2.1.tdiv 2).toNat).1.toNat).2.1.toNat (a6 y153)).2.2.2.1.getD l.2.2.2.toNat (a6 y158)=a
 net:(x7 b.2.1 (l.2.1.tdiv 2).toNat).2.2.1=(n:Int)
 nlt:n<b.2.2.length
 trs:l.2.1.tmod 2=0∨l.2.1.tmod 2=1
 del:I8 a.2.2.2.2.1 true=true
 slw:I8 a.2.2.2.2.2 true=true
structure J0u(b:j0)(l:u0)(n k:Nat):Prop where
 kind:l.2.2.1=2
 pix:ix (l.2.1.tdiv 2) (p7 b.2.1).length
 plt:(l.2.1.tdiv 2).toNat < (p7 b.2.1).length
 net:(x7 b.2.1 (l.2.1.tdiv 2).toNat).2.2.1=(n:Int)
 nlt:n<b.2.2.length
 idx:l.2.2.2=(k:Int)
 klt:k < (x9 b.2.1 n).length
theorem x0I{k s:Int}{t:Nat}(h:t < (K3 k s).length):(((K3 k s).getD t (0,0)).2=0∨((K3 k s).getD t (0,0)).2=1):=by
 grind[Ro,L8]
theorem Iu{b:j0}(F:x5 b=true){l:u0}(h:l∈lV b):(∃a n,Oq b l a n)∨∃n k,J0u b l n k:=by
 obtain⟨H,x,_⟩:=Y7 F;have E:=W3 H;rcases v0Q h with ⟨i,j,t,hi,y,v,rfl⟩ | ⟨i,k,t,hi,hk,v,rfl⟩
 ·obtain⟨G,z,X⟩:=GB E hi;obtain⟨c1,c2,W,Q⟩:=GC z;obtain⟨a1,a2,a3,V⟩:=Q j y;obtain⟨B,T⟩:∃B:Nat,(j7 (v8 b i) j).2.2.1=(B:Int):=⟨(j7 (v8 b i) j).2.2.1.toNat,by omega⟩;have f:B < (j9 b.2.1 i).2.2.length:=by omega
  have Y:A0 (j9 b.2.1) i+B < (p7 b.2.1).length:=by
   have:=On (j9 b.2.1) hi f;unfold p7;rw[Kv]; omega
  have g:=Rx b.2.1.1.length b.2.1.2.2.length (j9 b.2.1) (B7 b.2.1) (a6 y235) hi f;have g:x7 b.2.1 (A0 (j9 b.2.1) i+B)=((i:Int),(B:Int),(j9 b.2.1 i).2.2.getD B 0,(B:Int)==((j9 b.2.1 i).2.2.length:Int)-1):=g;have hn:=B3.1 (E.fac.net.1 i hi B f);obtain⟨n,w⟩:∃n:Nat,(j9 b.2.1 i).2.2.getD B 0=(n:Int):=⟨((j9 b.2.1 i).2.2.getD B 0).toNat,by omega⟩;have s:(j7 (v8 b i) j).1<=3:=by have:=s0j (Nat.lt_of_le_of_lt (Nat.zero_le _) v); omega
  obtain⟨_,P,k3⟩:=r0N (o0l z y) s;have e:=q0p (q:=((A0 (j9 b.2.1) i+B:Nat):Int)) (Int.natCast_nonneg _) (x0I v);have o:(Ir (A0 (j9 b.2.1) i:Int) (j7 (v8 b i) j) j t).2.1=2*((A0 (j9 b.2.1) i+B:Nat):Int)+((K3 (j7 (v8 b i) j).1 (j7 (v8 b i) j).2.2.2.1).getD t (0,0)).2:=by
   show 2*((A0 (j9 b.2.1) i:Int)+(j7 (v8 b i) j).2.2.1)+_=_;rw[T,Int.natCast_add]
  refine .inl ⟨j7 (v8 b i) j,n,?_⟩;have c:((Ir (A0 (j9 b.2.1) i:Int) (j7 (v8 b i) j) j t).2.1.tdiv 2)=((A0 (j9 b.2.1) i+B:Nat):Int):=by rw[o]; exact e.1
  have m:((A0 (j9 b.2.1) i+B:Nat):Int).toNat=A0 (j9 b.2.1) i+B:=rfl;refine⟨rfl,?_,?_,?_,?_,?_,?_,?_,by omega,by rw[o]; omega,P,k3⟩
  ·rw[c]; exact oo
  ·omega
  ·rw[c,m,g]; exact⟨Int.natCast_nonneg _,by omega⟩
  ·rw[c,m,g]; exact G
  ·rw[c,m,g]; exact⟨Int.natCast_nonneg _,by show(j:Int) < ((v8 b i).2.2.2.1.length:Int); omega⟩
  ·rw[c,m,g]; rfl
  ·rw[c,m,g]; exact w
 ·obtain⟨q,u,h2,h3,_⟩:=Rn (x7 b.2.1) i (p7 b.2.1).length _ (L8 (d:=0) hk);have u:(x9 b.2.1 i).getD k 0=(q:Int):=u;have o:(Fs (L4 b i) ((x9 b.2.1 i).getD k 0) k t).2.1=2*(q:Int)+(t:Int):=by
   show 2*(x9 b.2.1 i).getD k 0+_=_;rw[u]
  have e:=q0p (q:=(q:Int)) (r:=(t:Int)) (Int.natCast_nonneg _) (by omega);have c:((Fs (L4 b i) ((x9 b.2.1 i).getD k 0) k t).2.1.tdiv 2)=(q:Int):=by rw[o]; exact e.1
  have m:((q:Int)).toNat=q:=rfl;refine .inr ⟨i,k,rfl,?_,?_,?_,hi,rfl,hk⟩
  ·rw[c]; exact oo
  ·omega
  grind
theorem DD{l:List Fk}{p:Bool}(h:I8 l p=true){x:Int}(b:x=0∨x=1):ix x l.length/\D2 (l.getD x.toNat (a6 y269))=true:=by
 unfold I8 at h;rw[ba,dq] at h;have a:x.toNat<l.length:=by omega
 refine⟨oo,?_⟩
 grind
section
variable {b:j0}
theorem Iv{l:u0}{a:G5}{n:Nat}(h:Oq b l a n):Cu (l6 b) l=some a:=by
 unfold Cu;refine(gP ⟨by decide,h.pix,h.iix,trivial⟩).trans ?_;rw[lE];refine(gP ⟨h.cix,h.aix,trivial⟩).trans ?_;rw[lE];exact congrArg some h.arc
theorem Ar{l:u0}{n:Nat}(a:ix (l.2.1.tdiv 2) (p7 b.2.1).length)(c:(x7 b.2.1 (l.2.1.tdiv 2).toNat).2.2.1=(n:Int)):Dm (l6 b) l=some (n:Int):=by
 unfold Dm;refine(gP ⟨by decide,a,trivial⟩).trans ?_;rw[lE];exact congrArg some c
theorem M0K(f:wf j3 b)(e:x5 b=true){l:u0}{a:G5}{n:Nat}(h:Oq b l a n):Hn b l=some (a,(A3 b n).getD 0 0):=by
 have c:=W3 (Y7 e).1;have d:=BQ e h.nlt;have n1:=d.wf.n1;have g:=d.loads.1;unfold Hn;rw[Gz b.2.1 f.2.1 c.fac.ni14 c.fac.np8 c.pin,vS,gP ⟨rfl,by decide,h.pix,h.plt,trivial⟩,lE];show gd (ix (x7 b.2.1 (l.2.1.tdiv 2).toNat).1 b.2.1.1.length/\ix (j9 b.2.1 (x7 b.2.1 (l.2.1.tdiv 2).toNat).1.toNat).2.1 b.1.length/\ix l.2.2.2 (b.1.getD (j9 b.2.1 (x7 b.2.1 (l.2.1.tdiv 2).toNat).1.toNat).2.1.toNat (a6 y153)).2.2.2.1.length/\(AU b (x7 b.2.1 (l.2.1.tdiv 2).toNat).2.2.1).isSome=true/\ix (0:Int) (vl (AU b (x7 b.2.1 (l.2.1.tdiv 2).toNat).2.2.1)).length/\Int.toNat (0:Int) < (vl (AU b (x7 b.2.1 (l.2.1.tdiv 2).toNat).2.2.1)).length/\True) (lt (vl (AU b (x7 b.2.1 (l.2.1.tdiv 2).toNat).2.2.1),(b.1.getD (j9 b.2.1 (x7 b.2.1 (l.2.1.tdiv 2).toNat).1.toNat).2.1.toNat (a6 y153)).2.2.2.1.getD l.2.2.2.toNat (a6 y158)) fun x=>match x with | (v2,v3)=>some (v3,v2.getD (Int.toNat (0:Int)) (0:Int)))=_;rw[h.net,M0G b f d,vS,gP ⟨h.iix,h.cix,h.aix,rfl,⟨by decide,by omega⟩,by omega,trivial⟩,lE,h.arc];rfl
theorem M0J(d:wf j3 b)(c:x5 b=true){l:u0}{n k:Nat}(h:J0u b l n k):Co b l=some (n:Int):=by
 have a:=W3 (Y7 c).1;unfold Co;rw[Gz b.2.1 d.2.1 a.fac.ni14 a.fac.np8 a.pin,vS,gP ⟨rfl,by decide,h.pix,h.plt,trivial⟩,lE];exact congrArg some h.net
end
theorem Ww{n:Int}(e:0<=n)(f:n<=1000000000000000000):∃r,BS n r/\r<=3000000000/\Nb n=some r:=by
 unfold Nb;refine v0I (J:=fun r=>some r) (n:=n) (H:=3000000000) e (by omega) (by decide) (by decide) (fun g s b d c=>?_);obtain⟨lo,hi⟩:=s;have b:0<=lo:=b;have d:lo<=hi:=d;have c:hi<=3000000000:=c;show Uk n g (lo,hi)=if decide (lo<hi)=true then g (It n (lo,hi)) else some lo
 rw[Uk];by_cases a:lo<hi
 ·obtain⟨h,k,j⟩:=Wv b a;have i:=L9 (A:=3000000000) (B:=3000000000) (x:=(lo+hi+1).tdiv 2) (y:=(lo+hi+1).tdiv 2) (by omega) (by omega) (by omega) (by omega) (by decide);rw[if_pos (decide_eq_true a),if_pos (decide_eq_true a),gP ⟨oo,oo,by decide,trivial⟩,gP ⟨oo,trivial⟩];unfold It;show(if _ then _ else _)=g (if decide ((lo+hi+1).tdiv 2*(lo+hi+1).tdiv 2<=n)=true then((lo+hi+1).tdiv 2,hi) else(lo,(lo+hi+1).tdiv 2-1));split
  ·rfl
  ·exact gP ⟨oo,trivial⟩
 ·rw[if_neg (by grind),if_neg (by grind)];rfl
theorem P0b{n m:Int}(h:0<=n)(l:n<=2000000000000000000)(_:m=0∨m=1):∃r,BS n r/\r<=2000000000/\Dh n m=some (Fv n m r):=by
 unfold Dh;obtain⟨r,e,c,k⟩:=v0I (J:=fun r=>LO m n r) (F:=Pu n m) (n:=n) (H:=2000000000) h (by omega) (by decide) (by decide) (fun g s b f d=>by
  obtain⟨lo,hi⟩:=s;have b:0<=lo:=b;have f:lo<=hi:=f;have d:hi<=2000000000:=d;show Pu n m g (lo,hi)=if decide (lo<hi)=true then g (It n (lo,hi)) else LO m n lo
  rw[Pu];by_cases a:lo<hi
  ·obtain⟨o,u,t⟩:=Wv b a;have q:=L9 (A:=3000000000) (B:=3000000000) (x:=(lo+hi+1).tdiv 2) (y:=(lo+hi+1).tdiv 2) (by omega) (by omega) (by omega) (by omega) (by decide);rw[if_pos (decide_eq_true a),if_pos (decide_eq_true a),gP ⟨oo,oo,by decide,trivial⟩,gP ⟨oo,trivial⟩];unfold It;show(if _ then _ else _)=g (if decide ((lo+hi+1).tdiv 2*(lo+hi+1).tdiv 2<=n)=true then((lo+hi+1).tdiv 2,hi) else(lo,(lo+hi+1).tdiv 2-1));split
   ·rfl
   ·exact gP ⟨oo,trivial⟩
  grind)
 refine⟨r,e,c,k.trans ?_⟩;have j:=e.1;have i:=L9 (A:=2000000000) (B:=2000000000) (x:=r) (y:=r) (by omega) (by omega) (by omega) (by omega) (by decide);rw[LO,gP ⟨(fun _=>oo),trivial⟩];unfold Fv;split
 ·rw[gP ⟨oo,trivial⟩]; rfl
 ·rfl
theorem RC(s d:Int):500*s*500*s=250000*(s*s)/\1000000*s*s=1000000*(s*s)/\4*d*d=4*(d*d):=by
 grind
theorem L0n{s d m:Int}(h:0<=s)(V:s<=1000000)(j:0<=d)(Y:d<=301000000)(f:m=0∨m=1):∃r z,X6 s d m=some r/\Dh (1000000*s*s+4*d*d) m=some z/\X5 z 1000 m=some r/\0<=r/\r<=3000000001:=by
 obtain⟨q,X,T⟩:=RC s d;have Q:=L9 (A:=1000000) (B:=1000000) (x:=s) (y:=s) (by omega) (by omega) (by omega) (by omega) (by decide);have W:=L9 (A:=301000000) (B:=301000000) (x:=d) (y:=d) (by omega) (by omega) (by omega) (by omega) (by decide);have v:0<=s*s:=Int.mul_nonneg h h;have H:0<=d*d:=Int.mul_nonneg j j;obtain⟨R,g,P,k⟩:=Ww (n:=250000*(s*s)+d*d) (by omega) (by omega);obtain⟨Z,i,w,E⟩:=P0b (n:=4*(250000*(s*s)+d*d)) (m:=m) (by omega) (by omega) f;have c:=g.1;have G:=i.1;have F:=x0q g i f;have u:1000000*s*s+4*d*d=4*(250000*(s*s)+d*d):=by omega
 have t:0<=Fv (4*(250000*(s*s)+d*d)) m Z/\Fv (4*(250000*(s*s)+d*d)) m Z<=3000000000:=by
  unfold Fv;split <;> omega
 have l:=GF (a:=Fv (4*(250000*(s*s)+d*d)) m Z) (b:=1000) (K:=3000000) m (by decide) (by omega) (by omega);have o:=L9 (A:=3000000000) (B:=3000000000) (x:=R) (y:=R) (by omega) (by omega) (by omega) (by omega) (by decide);have e:0<=P8 (250000*(s*s)+d*d) m R:=by
  unfold P8;rcases f with rfl | rfl
  ·rw[if_neg (by simp),Fu c (by decide)]; omega
  ·split
   ·rw[Int.tdiv_eq_ediv_of_nonneg c]; omega
   ·rw[BT c (by decide)]; split <;> omega
 refine⟨P8 (250000*(s*s)+d*d) m R,Fv (4*(250000*(s*s)+d*d)) m Z,?_,by rw[u]; exact E,?_,e,by omega⟩
 ·unfold X6;rw[q,k,vS,gP ⟨oo,oo,oo,oo,oo,trivial⟩,gP ⟨rfl,trivial⟩,lE,gP ⟨(fun _=>oo),trivial⟩];unfold P8;split
  ·have:R.tdiv 500=R / 500:=Int.tdiv_eq_ediv_of_nonneg c;exact gP ⟨by decide,oo,trivial⟩
  ·rw[(W6 R 500 m (by omega) (by omega) (by decide)).1,vS,gP ⟨rfl,trivial⟩,lE]
 ·rw[F];exact(W6 _ 1000 m (by omega) (by omega) (by decide)).2
end Go.Proofs.YtechodbafnmddaaGreatDoor
end
section
namespace Go.Proofs.YtechodbafnmddaaGreatDoor
open Go Go.Proofs Go.Proofs.Xv Go.Proofs.Xl Go.Proofs.Xd
theorem O0O(a b:Int):Nc a b=some (decide (a<b)):=by
 unfold Nc;have e:∀a,HC a=some (a != a):=fun _=>rfl;rw[e,e,gP ⟨rfl,fun _=>rfl,trivial⟩,vS,vS];simp
theorem Ot{xs:List Int}{x:Int}(y:xs.length<=4611686018427387903){p:Nat}(t:p<xs.length)(r:∀i,i<p->xs.getD i 0<x)(v:∀i,p<=i->i<xs.length->x<=xs.getD i 0):Nf xs x=some ((p:Int),xs.getD p 0==x):=by
 have k:∀(m i j:Nat),i<=p->p<=j->j<=xs.length->j-i<m->K5 (Nd xs x) m ((i:Int),(j:Int))=some ((p:Int),xs.getD p 0==x):=by
  intro m
  induction m with
  | zero=>intro i j _ _ _ h; omega
  | succ m q =>
    intro i j hi s l w;show Nd xs x (K5 (Nd xs x) m) ((i:Int),(j:Int))=_;rw[Nd];by_cases f:i<j
    ·have c:(i+j) / 2<xs.length:=by omega
     have g:((((i+j) / 2:Nat)):Int).toNat=(i+j) / 2:=rfl;rw[if_pos (by simpa using f),D0Z,gP ⟨oo,oo,⟨⟨by decide,by decide⟩,by omega,by omega⟩,oo,trivial⟩,g,O0O,gP ⟨oo,rfl,trivial⟩,vS];by_cases n:xs.getD ((i+j) / 2) 0<x
     ·rw[if_pos (by simpa using n),gP ⟨oo,trivial⟩];have d:(i+j) / 2<p:=by
       apply Nat.lt_of_not_le;intro b;have:=v _ b c; omega
      have:=q ((i+j) / 2+1) j (by omega) s l (by omega);simpa using this
     ·rw[if_neg (by simpa using n)];have d:p<=(i+j) / 2:=by
       apply Nat.le_of_not_lt;intro b;have:=r _ b; omega
      exact q i ((i+j) / 2) hi d (by omega) (by omega)
    ·have e:i=p:=by omega
     subst e;rw[if_neg (by simpa using f),Um];have g:((i:Int)).toNat=i:=rfl;have u:decide ((i:Int) < (xs.length:Int))=true:=by simpa using t
     have o:∀a,HB a=some (a != a):=fun _=>rfl;rw[g,u,o,o,gP ⟨fun _=>oo,fun _=>oo,fun _=>rfl,fun _=>rfl,trivial⟩,vS,vS];simp
 unfold Nf;have:=k P7 0 xs.length (by omega) (by omega) (Nat.le_refl _) (by simp only[P7]; omega);exact this
def A5(xs:List Int)(x:Int):Int:=min (max x (xs.getD 0 0)) (xs.getD (xs.length-1) 0)
theorem O0Z{xs:List Int}(x:Int)(h:I7 xs=true):∃(p:Nat) (a b:Int),p<xs.length/\DV xs x=some ((p:Int),a,b) /\
  ((a=1/\b=0/\Q3 xs x=some ([((p:Int),1)],1)) ∨
    (p+1<xs.length/\0<a/\0<b/\a+b<=100000/\Q3 xs x=some ([((p:Int),a),((p:Int)+1,b)],a+b))):=by
 obtain⟨l1,l4⟩:=Dw h;have o:((xs.length:Int)-1).toNat=xs.length-1:=by omega
 have X:xs.getD 0 0<=A5 xs x:=by
  have:xs.getD 0 0<=xs.getD (xs.length-1) 0:=by
   by_cases l:xs.length=1
   ·rw[l]; exact Int.le_refl _
   ·have:=DC h (by omega:0<xs.length-1) (by omega); omega
  unfold A5; omega
 have V:A5 xs x<=xs.getD (xs.length-1) 0:=by unfold A5; omega
 obtain⟨p,d,w,u⟩:=w0K h X V;have c:∀(q:Nat) (r:Option (Int×Int×Int)),(∀g,DU xs (A5 xs x) g (q:Int)=r)->(∀i,q<i->i<xs.length->A5 xs x<xs.getD i 0)->q<xs.length->lp (DU xs (A5 xs x)) ((xs.length:Int)-1)=r:=by
  intro q r y e f;have t:∀(m k:Nat),q+k<xs.length->k<m->K5 (DU xs (A5 xs x)) m ((q+k:Nat):Int)=r:=by
   intro m
   induction m with
   | zero=>intro k _ h; omega
   | succ m T =>
     intro k W hm;show DU xs (A5 xs x) (K5 (DU xs (A5 xs x)) m) ((q+k:Nat):Int)=r;by_cases z:k=0
     ·subst z; exact y _
     ·have hg:=e (q+k) (by omega) W;have j:(((q+k:Nat):Int)).toNat=q+k:=rfl;have E:¬(A5 xs x=xs.getD (q+k) 0):=by omega
      have G:¬(xs.getD (q+k) 0<A5 xs x):=by omega
      rw[DU,if_pos (by simp; omega),gP ⟨oo,trivial⟩,j,if_neg (by simpa using E),gP ⟨oo,trivial⟩,if_neg (by simpa using G),gP ⟨oo,trivial⟩];have F:(((q+k:Nat):Int))-1=((q+(k-1):Nat):Int):=by omega
      rw[F];exact T (k-1) (by omega) (by omega)
  have:=t P7 (xs.length-1-q) (by omega) (by simp only[P7]; omega);have Q:((q+(xs.length-1-q):Nat):Int)=(xs.length:Int)-1:=by omega
  rw[Q] at this;exact this
 have j:∀n:Nat,((n:Int)).toNat=n:=fun _=>rfl;by_cases v:xs.getD p 0=A5 xs x
 ·refine⟨p,1,0,d,?_,.inl ⟨rfl,rfl,?_⟩⟩
  ·unfold DV;rw[gP ⟨oo,trivial⟩,gP ⟨oo,oo,trivial⟩,o];change lt (A5 xs x) _=_;rw[lE,gP ⟨oo,trivial⟩];refine c p _ (fun g=>?_) (fun i hi l=>?_) d
   ·rw[DU,if_pos (by simp),gP ⟨oo,trivial⟩,j,if_pos (by simpa using v.symm)]
   ·have:=DC h hi l; omega
  ·unfold Q3;rw[gP ⟨oo,oo,oo,trivial⟩,o];change lt (A5 xs x) _=_;rw[lE,Ot (by omega) d w u,gP ⟨rfl,trivial⟩,vS,lE,if_pos (by simpa using v)]
 ·have e:A5 xs x<xs.getD p 0:=by have:=u p (Nat.le_refl _) d; omega
  have P:0<p:=by
   apply Nat.pos_of_ne_zero;intro z; subst z; omega
  obtain⟨q,rfl⟩:∃q,p=q+1:=⟨p-1,by omega⟩;have f:=w q (by omega);have b1:=Oo h d;have Y:=Oo h (by omega:q<xs.length);refine⟨q,xs.getD (q+1) 0-A5 xs x,A5 xs x-xs.getD q 0,by omega,?_,.inr ⟨d,by omega,by omega,by omega,?_⟩⟩
  ·unfold DV;rw[gP ⟨oo,trivial⟩,gP ⟨oo,oo,trivial⟩,o];change lt (A5 xs x) _=_;rw[lE,gP ⟨oo,trivial⟩];refine c q _ (fun g=>?_) (fun i hi l=>?_) (by omega)
   ·have s:((q:Int)+1).toNat=q+1:=by omega
    have E:¬(A5 xs x=xs.getD q 0):=by omega
    rw[DU,if_pos (by simp),gP ⟨oo,trivial⟩,j,if_neg (by simpa using E),gP ⟨oo,trivial⟩,if_pos (by simpa using f),s,gP ⟨oo,oo,oo,oo,oo,trivial⟩]
   ·by_cases y:i=q+1
    ·subst y; exact e
    ·have:=DC h (by omega:q+1<i) l; omega
  ·have s:(((q+1:Nat):Int)-1).toNat=q:=by omega
   have H:((q+1:Nat):Int)-1=(q:Int):=by omega
   unfold Q3;rw[gP ⟨oo,oo,oo,trivial⟩,o];change lt (A5 xs x) _=_;rw[lE,Ot (by omega) d w u,gP ⟨rfl,trivial⟩,vS,lE,if_neg (by simpa using v),s,j,gP ⟨oo,oo,oo,oo,oo,oo,oo,oo,oo,oo,trivial⟩,lE,H];congr 2;omega
def K6(t:q5)(r q:Nat):Int:=t.2.2.getD (r*t.2.1.length+q) 0
def o5(t:q5)(r q:Nat)(w c d:Int):Int:=K6 t r q*w*c+K6 t r (q+1)*w*d
theorem Iw{t:q5}(a:D2 t=true){r q:Nat}(b:r<t.1.length)(e:q<t.2.1.length){w c:Int}(d:0<=w)(f:w<=100000)(g:0<=c)(j:c<=100000) :
  (-100000000000<=K6 t r q*w/\K6 t r q*w<=100000000000) /\ -10000000000000000<=K6 t r q*w*c/\K6 t r q*w*c<=10000000000000000:=by
 obtain⟨_,_,_,_,l,_,_⟩:=Gv a;have h:=q0q a (i:=r*t.2.1.length+q) (by have:=Rz b e; omega);have k:=L9 (A:=1000000) h.1 h.2 d f (by decide);have m:=L9 (A:=100000000000) (B:=100000) (x:=K6 t r q*w) (by grind[K6]) (by grind[K6]) g j (by decide)
 grind[K6]
def Sh(n q:Nat)(c d:Int)(M:List (Int×Int)):Prop:=(c=1/\d=0/\M=[((q:Int),1)])∨(q+1<n/\0<c/\0<d/\c+d<=100000/\M=[((q:Int),c),((q:Int)+1,d)])
theorem u0X{t:q5}(b:D2 t=true){r q:Nat}(a:r<t.1.length)(g:q<t.2.1.length){w c d:Int}{M:List (Int×Int)}(i:Sh t.2.1.length q c d M)(e:0<=w)(f:w<=100000) : -20000000000000000<=o5 t r q w c d/\o5 t r q w c d<=20000000000000000:=by
 unfold o5;rcases i with ⟨rfl,rfl,_⟩ | ⟨hq1,c0,d0,hcd,_⟩
 ·have h:=(Iw b a g e f (c:=1) (by decide) (by decide)).2;rw[Int.mul_zero]; omega
 ·have h:=(Iw b a g e f (c:=c) (by omega) (by omega)).2;have j:=(Iw b a hq1 e f (c:=d) (by omega) (by omega)).2;omega
theorem Wx{t:q5}(e:D2 t=true){r q:Nat}(d:r<t.1.length)(f:q<t.2.1.length){w c:Int}(n:0<=w)(m:w<=100000)(z:0<=c)(u:c<=100000){R:Int}(j:R=(r:Int)){v1:List Cs×Int}{v11:Int}{y a:Int×Int->Option Int}{s:Int}(P : -100000000000000000<=s)(G:s<=100000000000000000){i:Nat}(hi:i<v1.1.length)(V:v1.1.length<=2)
  {Q:Int} (l:Q=(q:Int)) (E:v1.1.getD i (a6 V4)=(Q,c)):JH t (R,w) v1 v11 y a (s,(i:Int))=a (s+K6 t r q*w*c,(i:Int)+1):=by
 subst j; subst l;obtain⟨_,F,_,H,T,_,x⟩:=Gv e;have h:=Rz d f;have g:=Iw e d f n m z u;have v:((i:Int)).toNat=i:=rfl;have o:(r:Int)*(t.2.1.length:Int)=((r*t.2.1.length:Nat):Int):=by simp
 have k:(((r*t.2.1.length:Nat):Int)+(q:Int)).toNat=r*t.2.1.length+q:=by omega
 rw[JH,if_pos (by grind),v,gP ⟨oo,hi,trivial⟩,lE,E];unfold K6 at g ⊢;show gd (b7 ((r:Int)*(t.2.1.length:Int))/\b7 ((r:Int)*(t.2.1.length:Int)+(q:Int))/\ix ((r:Int)*(t.2.1.length:Int)+(q:Int)) t.2.2.length/\b7 (t.2.2.getD ((r:Int)*(t.2.1.length:Int)+(q:Int)).toNat 0*w)/\b7 (t.2.2.getD ((r:Int)*(t.2.1.length:Int)+(q:Int)).toNat 0*w*c)/\b7 (s+t.2.2.getD ((r:Int)*(t.2.1.length:Int)+(q:Int)).toNat 0*w*c)/\True) (lt (s+t.2.2.getD ((r:Int)*(t.2.1.length:Int)+(q:Int)).toNat 0*w*c) fun b=>gd _ (a (b,(i:Int)+1)))=_;rw[o,k,gP ⟨oo,oo,oo,oo,oo,oo,trivial⟩,lE,gP ⟨oo,trivial⟩]
theorem I0P{t:q5}{a:Cs}{v1:List Cs×Int}{v11:Nat}(d:v11<=2){b c:Int×Int->Option Int}{s:Int}:JH t a v1 (v11:Int) b c (s,(v1.1.length:Int))=b (s,(v11:Int)+1):=by
 rw[JH,if_neg (by simp),Uo,gP ⟨oo,trivial⟩]
theorem P9{a b:Type}{F:(a->Option b)->a->Option b}{n:Nat}{s:a}:K5 F (n+1) s=F (K5 F n) s:=rfl
theorem Ix:((0:Nat):Int)+1=((1:Nat):Int):=rfl
theorem Iy:((1:Nat):Int)+1=((2:Nat):Int):=rfl
theorem Wy{t:q5}(b:D2 t=true){r q:Nat}(a:r<t.1.length)(h:q<t.2.1.length){w c d:Int}{M:List (Int×Int)}(l:Sh t.2.1.length q c d M)(e:0<=w)(f:w<=100000){R T:Int}(g:R=(r:Int)){v11:Nat}(j:v11<=2){k:Int×Int->Option Int}{s:Int}(u : -50000000000000000<=s)(o:s<=50000000000000000) :
  lp (JH t (R,w) (M,T) (v11:Int) k) (s,0)=k (s+o5 t r q w c d,(v11:Int)+1):=by
 unfold o5;rcases l with ⟨rfl,rfl,rfl⟩ | ⟨hq1,c0,d0,hcd,rfl⟩
 ·refine GD 2 (by decide) fun n=>?_;rw[P9];refine(Wx (v1:=([((q:Int),1)],T)) (i:=0) (s:=s) (c:=1) b a h e f (by decide) (by decide) g (by omega) (by omega) (Nat.le_refl 1) (Nat.le_succ 1) rfl rfl).trans ?_;rw[Int.mul_zero,Int.add_zero,P9,Ix];exact I0P (v1:=([((q:Int),1)],T)) j
 ·have m:=(Iw b a h e f (c:=c) (by omega) (by omega)).2;refine GD 3 (by decide) fun n=>?_;rw[P9];refine(Wx (v1:=([((q:Int),c),((q:Int)+1,d)],T)) (i:=0) (s:=s) (c:=c) b a h e f (by omega) (by omega) g (by omega) (by omega) (Nat.le_succ 1) (Nat.le_refl 2) rfl rfl).trans ?_;rw[P9,Ix];refine(Wx (v1:=([((q:Int),c),((q:Int)+1,d)],T)) (i:=1) (s:=s+K6 t r q*w*c) (c:=d) (q:=q+1) b a hq1 e f (by omega) (by omega) g (by omega) (by omega) (Nat.le_refl 2) (Nat.le_refl 2) (Int.natCast_succ q).symm rfl).trans ?_;rw[<- Int.add_assoc,P9,Iy];exact I0P (v1:=([((q:Int),c),((q:Int)+1,d)],T)) j
theorem B0Z{t:q5}(f:D2 t=true){p u r q k:Nat}(b:r=p+u)(d:r<t.1.length)(h:q<t.2.1.length){w c W:Int}(g:0<=w)(x:w<=100000)(j:0<=c)(F:c<=100000)(hW:W=w*c){i v1:Int×Int×Int}(P:i.1=(p:Int)){q0:Nat}(y:v1.1=(q0:Int))(H:q=q0+k)(n:k<=1)(V:u<=1){e:Int×Int->Option Int}{s:Int}(s0 : -100000000000000000<=s)(T:s<=100000000000000000) :
  DW (k:Int) s t i (u:Int) v1 e W=e (s+K6 t r q*w*c,(k:Int)+1):=by
 obtain⟨_,Q,_,Y,hl,_,G⟩:=Gv f;have m:=Rz d h;have l:=Iw f d h g x j F;subst b; subst H;have E:((p:Int)+(u:Int))*(t.2.1.length:Int)=(((p+u)*t.2.1.length:Nat):Int):=by simp
 have o:((((p+u)*t.2.1.length:Nat):Int)+(q0:Int)+(k:Int)).toNat=(p+u)*t.2.1.length+(q0+k):=by omega
 have a:W*K6 t (p+u) (q0+k)=K6 t (p+u) (q0+k)*w*c:=by grind
 rw[DW];by_cases X:0<W
 ·unfold K6 at l a ⊢;rw[if_pos (by grind),P,y,E,o,a,gP ⟨oo,oo,oo,oo,oo,oo,oo,trivial⟩,lE,Ju,gP ⟨oo,trivial⟩]
 ·have z:W=0:=by
   have:0<=w*c:=Int.mul_nonneg g j;omega
  have v:K6 t (p+u) (q0+k)*w*c=0:=by grind
  rw[if_neg (by grind),Ju,gP ⟨oo,trivial⟩,v,Int.add_zero]
theorem Wz{t:q5}{u k:Nat}{b v1:Int×Int×Int}(c:k<=1){a:Int×Int->Option Int}{s W:Int}(d:W=0):DW (k:Int) s t b (u:Int) v1 a W=a (s,(k:Int)+1):=by
 subst d;rw[DW,if_neg (by simp),Ju,gP ⟨oo,trivial⟩]
theorem C0s{w c:Int}(e:0<=w)(d:w<=100000)(a:0<=c)(b:c<=100000):b7 (w*c)/\True:=by
 have:=L9 (A:=100000) (B:=100000) (x:=w) (y:=c) (by omega) d a b (by decide);exact⟨oo,trivial⟩
theorem RD{t:q5}{u k:Nat}(o:k<=1){a v1:Int×Int×Int}{m b:Int×Int->Option Int}{s w e:Int}(q:(if(u:Int)=1 then a.2.2 else a.2.1)=w)(d:(if k=0 then v1.2.1 else v1.2.2)=e)(g:0<=w)(i:w<=100000)(h:0<=e)(j:e<=100000) :
  Hm t a (u:Int) v1 m b (s,(k:Int))=DW (k:Int) s t a (u:Int) v1 b (w*e):=by
 have l:∀W,W=w->LR (k:Int) s t a (u:Int) v1 b W=DW (k:Int) s t a (u:Int) v1 b (w*e):=by
  intro W n;subst n;rw[LR];by_cases f:k=0
  ·subst f;have c:v1.2.1=e:=d;rw[if_pos (by rfl),c,gP (C0s g i h j)]
  ·rw[if_neg f] at d;rw[if_neg (by grind),d,gP (C0s g i h j)]
 grind[Hm]
theorem WA{t:q5}{u:Nat}(d:u<=1){b v1:Int×Int×Int}{a c:Int×Int->Option Int}{s:Int}:Hm t b (u:Int) v1 a c (s,((2:Nat):Int))=a (s,(u:Int)+1):=by
 rw[Hm,if_neg (by simp),TM,gP ⟨oo,trivial⟩]
theorem B0Y{t:q5}(j:D2 t=true){p u r q:Nat}(f:r=p+u)(o:u<=1)(i:r<t.1.length)(G:q<t.2.1.length){a b w c d:Int}{M:List (Int×Int)}(x:Sh t.2.1.length q c d M)(E:(if(u:Int)=1 then b else a)=w)(g:0<=w)(h:w<=100000){F:Int×Int->Option Int}{s:Int}(Q : -50000000000000000<=s)(P:s<=50000000000000000) :
  lp (Hm t ((p:Int),a,b) (u:Int) ((q:Int),c,d) F) (s,0)=F (s+o5 t r q w c d,(u:Int)+1):=by
 have v:0<=c/\c<=100000/\0<=d/\d<=100000:=by
  rcases x with ⟨rfl,rfl,_⟩ | ⟨_,_,_,_,_⟩ <;> omega
 obtain⟨l,m,y,z⟩:=v;have H:=(Iw j i G g h l m).2;refine GD 3 (by decide) fun n=>?_;rw[P9];refine(RD (k:=0) (e:=c) (by decide) E rfl g h l m).trans ?_;refine(B0Z j f i G g h l m rfl rfl (q0:=q) rfl (k:=0) rfl (by decide) o (by omega) (by omega)).trans ?_;rw[P9,Ix];refine(RD (k:=1) (e:=d) (by decide) E rfl g h y z).trans ?_;unfold o5;rcases x with ⟨rfl,rfl,_⟩ | ⟨hq1,_,_,_,_⟩
 ·refine(Wz (by decide) (Int.mul_zero w)).trans ?_;rw[P9,Iy,WA o,Int.mul_zero,Int.add_zero]
 ·refine(B0Z j f i hq1 g h y z rfl rfl (q0:=q) rfl (k:=1) rfl (by decide) o (by omega) (by omega)).trans ?_
  grind[P9,Iy,WA,Int.add_assoc]
theorem I0p{t:q5}{p u q:Nat}(m:u<=1){a b c d:Int}(f:(if(u:Int)=1 then b else a)=0)(j:0<=c)(l:c<=100000)(h:0<=d)(i:d<=100000){g:Int×Int->Option Int}{s:Int} :
  lp (Hm t ((p:Int),a,b) (u:Int) ((q:Int),c,d) g) (s,0)=g (s,(u:Int)+1):=by
 refine GD 3 (by decide) fun n=>?_;rw[P9];refine(RD (k:=0) (e:=c) (by decide) f rfl (by decide) (by decide) j l).trans ?_;refine(Wz (by decide) (Int.zero_mul _)).trans ?_;rw[P9,Ix];refine(RD (k:=1) (e:=d) (by decide) f rfl (by decide) (by decide) h i).trans ?_;refine(Wz (by decide) (Int.zero_mul _)).trans ?_
 grind[P9,Iy,WA]
theorem Iz{xs:List Int}(x:Int)(h:I7 xs=true):∃(p:Nat) (a b:Int) (L:List (Int×Int)),p<xs.length/\Sh xs.length p a b L/\DV xs x=some ((p:Int),a,b)/\Q3 xs x=some (L,a+b):=by
 obtain⟨p,a,b,e,d,f⟩:=O0Z x h;rcases f with ⟨rfl,rfl,c⟩ | ⟨c,h4,h5,h6,h7⟩
 ·exact⟨p,1,0,_,e,.inl ⟨rfl,rfl,rfl⟩,d,c⟩
 ·exact⟨p,a,b,_,e,.inr ⟨c,h4,h5,h6,rfl⟩,d,h7⟩
theorem WB{t:q5}(f:D2 t=true){p q:Nat}(h:p<t.1.length)(g:q<t.2.1.length){a b c d:Int}{L M:List (Int×Int)}(i:Sh t.1.length p a b L)(e:Sh t.2.1.length q c d M)(T U m:Int) :
  lp (HD t (M,U) (L,T) m) (0,0)=JG (L,T) (M,U) m (o5 t p q a c d+(if b=0 then 0 else o5 t (p+1) q b c d)):=by
 have j:∀n:Nat,((n:Int)).toNat=n:=fun _=>rfl;rcases i with ⟨rfl,rfl,rfl⟩ | ⟨hp1,a0,b0,hab,rfl⟩
 ·refine GD 2 (by decide) fun n=>?_;rw[P9,HD,if_pos (by simp),gP ⟨⟨by decide,by simp⟩,by simp,trivial⟩,lE];refine(Wy (v11:=0) f h g e (w:=1) (by decide) (by decide) rfl (by decide) (by decide) (by decide)).trans ?_;rw[P9,Ix,HD,if_neg (by simp),if_pos rfl,Int.zero_add,Int.add_zero]
 ·have k:=u0X f h g e (w:=a) (by omega) (by omega);refine GD 3 (by decide) fun n=>?_;rw[P9,HD,if_pos (by simp),gP ⟨⟨by decide,by simp⟩,by simp,trivial⟩,lE];refine(Wy (v11:=0) f h g e (w:=a) (by omega) (by omega) rfl (by decide) (by decide) (by decide)).trans ?_;rw[P9,Ix,HD,if_pos (by simp),gP ⟨⟨by decide,by simp⟩,by simp,trivial⟩,lE];refine(Wy (v11:=1) f hp1 g e (w:=b) (by omega) (by omega) (Int.natCast_succ p).symm (by decide) (by omega) (by omega)).trans ?_;rw[P9,Iy,HD,if_neg (by simp),if_neg (by omega),Int.zero_add]
theorem I0q{t:q5}(g:D2 t=true){p q:Nat}(k:p<t.1.length)(i:q<t.2.1.length){a b c d:Int}{L M:List (Int×Int)}(x:Sh t.1.length p a b L)(e:Sh t.2.1.length q c d M)(m:Int) :
  lp (Jv t ((p:Int),a,b) ((q:Int),c,d) m) (0,0)=Py ((p:Int),a,b) ((q:Int),c,d) m (o5 t p q a c d+(if b=0 then 0 else o5 t (p+1) q b c d)):=by
 have f:0<=a/\a<=100000/\0<=b/\b<=100000/\(b≠0->p+1<t.1.length):=by
  rcases x with ⟨rfl,rfl,_⟩ | ⟨_,_,_,_,_⟩ <;> omega
 obtain⟨l,o,v,F,h⟩:=f;have j:0<=c/\c<=100000/\0<=d/\d<=100000:=by
  rcases e with ⟨rfl,rfl,_⟩ | ⟨_,_,_,_,_⟩ <;> omega
 obtain⟨z,E,s,y⟩:=j;have G:=u0X g k i e l o;refine GD 3 (by decide) fun n=>?_;rw[P9,Jv,if_pos (by simp)];refine(B0Y (u:=0) (p:=p) (r:=p) (w:=a) g rfl (by decide) k i e rfl l o (by decide) (by decide)).trans ?_;rw[P9,Ix,Jv,if_pos (by simp)];by_cases hz:b=0
 ·subst hz;refine(I0p (u:=1) (by decide) rfl z E s y).trans ?_;rw[P9,Iy,Jv,if_neg (by simp),if_pos rfl,Int.zero_add,Int.add_zero]
 ·refine(B0Y (u:=1) (p:=p) (r:=p+1) (w:=b) g rfl (by decide) (h hz) i e rfl v F (by omega) (by omega)).trans ?_;rw[P9,Iy,Jv,if_neg (by simp),if_neg hz,Int.zero_add]
theorem C0A{t:q5}(a:D2 t=true){r q:Nat}(b:r<t.1.length)(c:q<t.2.1.length) : -1000000<=K6 t r q/\K6 t r q<=1000000:=by
 obtain⟨_,_,_,_,d,_,_⟩:=Gv a;exact q0q a (i:=r*t.2.1.length+q) (by have:=Rz b c; omega)
theorem WC{v w c:Int}(b : -1000000<=v)(e:v<=1000000)(d:0<=w)(f:0<=c) : -(1000000*(w*c))<=v*w*c/\v*w*c<=1000000*(w*c):=by
 have a:0<=w*c:=Int.mul_nonneg d f;rw[Int.mul_assoc];refine⟨?_,Int.mul_le_mul_of_nonneg_right e a⟩;have:=Int.mul_le_mul_of_nonneg_right b a;rw[Int.neg_mul] at this;exact this
theorem Kw{t:q5}(g:D2 t=true){r q:Nat}(f:r<t.1.length)(j:q<t.2.1.length){w c d:Int}{M:List (Int×Int)}(i:Sh t.2.1.length q c d M)(b:0<=w) : -(1000000*(w*(c+d)))<=o5 t r q w c d/\o5 t r q w c d<=1000000*(w*(c+d)):=by
 unfold o5;have a:=C0A g f j;rcases i with ⟨rfl,rfl,_⟩ | ⟨hq1,c0,d0,hcd,_⟩
 ·have e:=WC a.1 a.2 b (c:=1) (by decide);rw[Int.mul_zero,Int.add_zero,Int.add_zero]; exact e
 ·have h:=C0A g f hq1;have e:=WC a.1 a.2 b (c:=c) (by omega);have k:=WC h.1 h.2 b (c:=d) (by omega);rw[Int.mul_add w,Int.mul_add 1000000];omega
theorem Kx{t:q5}(f:D2 t=true)(s l m:Int):∃r,L7 t s l m=some r/\Cp t s l m=some r /\ -1000000<=r/\r<=1000000:=by
 have g:I7 t.1=true/\I7 t.2.1=true:=by
  simp only[D2,ba] at f;exact⟨f.1.1.1,f.1.1.2⟩
 obtain⟨p,a,b,L,o,v,G,F⟩:=Iz s g.1;obtain⟨q,c,d,M,i,h,P,E⟩:=Iz l g.2;have k:0<=a/\0<=b/\1<=a+b/\a+b<=100000/\a<=100000/\b<=100000/\(b≠0->p+1<t.1.length):=by
  rcases v with ⟨rfl,rfl,_⟩ | ⟨_,_,_,_,_⟩ <;> omega
 have H:1<=c+d/\c+d<=100000:=by
  rcases h with ⟨rfl,rfl,_⟩ | ⟨_,_,_,_,_⟩ <;> omega
 have T:=L9 (A:=100000) (B:=100000) (x:=a+b) (y:=c+d) (by omega) (by omega) (by omega) (by omega) (by decide);have e:0 < (a+b)*(c+d):=Int.mul_pos (by omega) (by omega);have Q:=Kw f o i h (w:=a) (by omega);have V : -(1000000*(b*(c+d)))<=(if b=0 then 0 else o5 t (p+1) q b c d)/\(if b=0 then 0 else o5 t (p+1) q b c d)<=1000000*(b*(c+d)):=by
  by_cases hz:b=0
  ·rw[if_pos hz,hz,Int.zero_mul]; decide
  ·rw[if_neg hz]; exact Kw f (k.2.2.2.2.2.2 hz) i h (by omega)
 have W:1000000*((a+b)*(c+d))=1000000*(a*(c+d))+1000000*(b*(c+d)):=by rw[Int.add_mul,Int.mul_add 1000000]
 obtain⟨n,u⟩:=W6 (o5 t p q a c d+(if b=0 then 0 else o5 t (p+1) q b c d)) ((a+b)*(c+d)) m (by omega) (by omega) e;have j:=GF (a:=o5 t p q a c d+(if b=0 then 0 else o5 t (p+1) q b c d)) (K:=1000000) m e (by omega) (by omega);have z:b7 ((a+b)*(c+d)):=oo;have i2:b7 (a+b):=oo;have i3:b7 (c+d):=oo;refine⟨_,?_,?_,j⟩
 ·unfold L7;rw[F,gP ⟨rfl,trivial⟩,vS,lE,E,gP ⟨rfl,trivial⟩,vS,lE,WB f o i v h,JG,n,gP ⟨z,rfl,trivial⟩,vS,lE]
 ·unfold Cp;rw[G,gP ⟨rfl,trivial⟩,vS,lE,P,gP ⟨rfl,trivial⟩,vS,lE,I0q f o i v h,Py,u,gP ⟨i2,i3,z,rfl,trivial⟩,vS,lE]
end Go.Proofs.YtechodbafnmddaaGreatDoor
end
section
namespace Go.Proofs.YtechodbafnmddaaGreatDoor
open Go Go.Proofs Go.Proofs.Sv Go.Proofs.Xv Go.Proofs.Xl Go.Proofs.Xd
section
variable {b:j0}
theorem IA(b:j0){n:Nat}(h:n<b.2.2.length):(l6 b).2.2.2.1.getD ((n:Int)).toNat 0=(A3 b n).getD 0 0/\ix (n:Int) (l6 b).2.2.2.1.length:=by
 have a:(l6 b).2.2.2.1.length=b.2.2.length:=Ij _ _;exact⟨Od _ 0 _ n h,oo⟩
theorem IB(b:j0){n:Nat}(h:n<b.2.2.length):(l6 b).2.2.2.2.1.getD ((n:Int)).toNat []=Ap b n/\ix (n:Int) (l6 b).2.2.2.2.1.length:=by
 have a:(l6 b).2.2.2.2.1.length=b.2.2.length:=Ij _ _;exact⟨Od _ [] _ n h,oo⟩
theorem I0B(o:wf j3 b)(f:x5 b=true){n k:Nat}(Q:n<b.2.2.length)(hk:k < (x9 b.2.1 n).length){s m:Int}(e:0<=s)(j:s<=1000000)(i:m=0∨m=1) :
  ∃r,X6 s ((Ap b n).getD k 0) m=some r/\LQ b (n:Int) (k:Int) s m=some r/\0<=r:=by
 have c:=BQ f Q;obtain⟨G,g⟩:=c.delays;have d:=g (r9 b n k).toNat;have w:=c.sn;have u:=c.wf.snkIn k (by omega);obtain⟨W,f2,X⟩:=RC s ((A9 b n).getD (r9 b n k).toNat 0);have V:=L9 (A:=1000000) (B:=1000000) (x:=s) (y:=s) (by omega) (by omega) (by omega) (by omega) (by decide);have P:=L9 (A:=301000000) (B:=301000000) (x:=(A9 b n).getD (r9 b n k).toNat 0) (y:=(A9 b n).getD (r9 b n k).toNat 0) (by omega) (by omega) (by omega) (by omega) (by decide);have t:0<=s*s:=Int.mul_nonneg e e;have H:0<=(A9 b n).getD (r9 b n k).toNat 0*(A9 b n).getD (r9 b n k).toNat 0:=Int.mul_nonneg d.1 d.1;obtain⟨r,z,Y,h,E,T,_⟩:=L0n e j d.1 d.2 i;refine⟨r,by grind[Ip],?_,T⟩;have F:((n:Int)).toNat=n:=rfl;have l:((k:Int)).toNat=k:=rfl;have a:0<=(b.2.2.getD n (a6 y172)).2.2.2.getD k 0/\((b.2.2.getD n (a6 y172)).2.2.2.getD k 0).toNat < (A9 b n).length:=by rw[G]; exact u
 have q:k < (b.2.2.getD n (a6 y172)).2.2.2.length:=by
  show k < (j5 b n).2.2.2.length;omega
 unfold LQ;rw[M0F b o c,vS,F,l,gP ⟨rfl,oo,oo,⟨a.1,by omega⟩,a.2,trivial⟩,lE];show gd (b7 (1000000*s)/\b7 (1000000*s*s)/\b7 (4*(A9 b n).getD (r9 b n k).toNat 0)/\b7 (4*(A9 b n).getD (r9 b n k).toNat 0*(A9 b n).getD (r9 b n k).toNat 0)/\b7 (1000000*s*s+4*(A9 b n).getD (r9 b n k).toNat 0*(A9 b n).getD (r9 b n k).toNat 0)/\(Dh (1000000*s*s+4*(A9 b n).getD (r9 b n k).toNat 0*(A9 b n).getD (r9 b n k).toNat 0) m).isSome=true/\(X5 (vl (Dh (1000000*s*s+4*(A9 b n).getD (r9 b n k).toNat 0*(A9 b n).getD (r9 b n k).toNat 0) m)) 1000 m).isSome=true/\True) (lt (vl (X5 (vl (Dh (1000000*s*s+4*(A9 b n).getD (r9 b n k).toNat 0*(A9 b n).getD (r9 b n k).toNat 0) m)) 1000 m)) fun v=>some v)=_;rw[h,vS,E,vS,gP ⟨oo,oo,oo,oo,oo,rfl,rfl,trivial⟩,lE]
theorem Ou(g:wf j3 b)(f:x5 b=true){q:Int}(i:j6 q 0 (((lV b).length:Int)-1)=true){s m:Int}(G:0<=s)(y:s<=1000000)(w:m=0∨m=1) :
  ∃r,I1 (l6 b) q s m=some r/\Bz b ((lV b).getD q.toNat (a6 y138)) s m=some r/\r<=1000000:=by
 have i:=B3.1 i;have e:ix q (l6 b).2.2.1.length:=⟨i.1,by show q < ((lV b).length:Int); omega⟩;generalize hl:(lV b).getD q.toNat (a6 y138)=l;have d:(l6 b).2.2.1.getD q.toNat (a6 y138)=l:=hl;have c:l∈lV b:=by rw[<- hl]; exact L8 (by omega)
 rcases Iu f c with ⟨a,n,h⟩ | ⟨n,k,h⟩
 ·obtain⟨t,u⟩:=DD h.slw h.trs;obtain⟨r,P,T,W,x⟩:=Kx u s ((A3 b n).getD 0 0) m;obtain⟨o,j⟩:=IA b h.nlt;refine⟨r,?_,?_,x⟩
  ·unfold I1;refine(gP ⟨e,trivial⟩).trans ?_;rw[lE,d,Ar h.pix h.net,vS,gP ⟨rfl,trivial⟩,lE];refine(if_pos (by rw[h.kind]; rfl)).trans ?_;rw[Iv h,vS,o,P,vS];refine(gP ⟨rfl,by decide,t,j,rfl,trivial⟩).trans ?_;rw[lE];have:min r 1000000=r:=by omega
   rw[this]
  ·unfold Bz;refine(if_pos (by rw[h.kind]; rfl)).trans ?_;rw[M0K g f h,vS,gP ⟨rfl,trivial⟩,lE];show gd (_/\ix (l.2.1.tmod 2) a.2.2.2.2.2.length/\(Cp (a.2.2.2.2.2.getD (l.2.1.tmod 2).toNat (a6 y269)) s ((A3 b n).getD 0 0) m).isSome=true/\True) (lt (vl (Cp (a.2.2.2.2.2.getD (l.2.1.tmod 2).toNat (a6 y269)) s ((A3 b n).getD 0 0) m)) fun Q=>some Q)=_;rw[T,vS,gP ⟨by decide,t,rfl,trivial⟩,lE]
 ·obtain⟨r,F,v,V⟩:=I0B g f h.nlt h.klt G y w;obtain⟨o,j⟩:=IB b h.nlt;have E:=Iq b n;have H:=h.klt;refine⟨min r 1000000,?_,?_,by omega⟩
  ·unfold I1;refine(gP ⟨e,trivial⟩).trans ?_;rw[lE,d,Ar h.pix h.net,vS,gP ⟨rfl,trivial⟩,lE];refine(if_neg (by rw[h.kind]; decide)).trans ?_;rw[o,h.idx];have z:((k:Int)).toNat=k:=rfl;rw[z,F,vS];refine(gP ⟨j,oo,rfl,trivial⟩).trans ?_;rw[lE]
  ·unfold Bz;refine(if_neg (by rw[h.kind]; decide)).trans ?_;rw[M0J g f h,vS,h.idx,v,vS,gP ⟨rfl,rfl,trivial⟩,lE,Int.min_comm]
def C6(c:p8)(k m:Int):Int:=if(k==1)=true then(if(m==0)=true then c.2.1 else c.2.2.1) else(if(m==0)=true then c.2.2.2.1 else c.2.2.2.2)
theorem Ov(c:p8)(k m:Int):JJ c k m=some (C6 c k m):=by
 grind[JJ,C6]
theorem P0n(c:p8)(k m:Int):Ho c k m=some (C6 c k m):=by
 grind[Ho,C6]
def J2(c:p8):Bool:=K2 c.1&&(decide (100<=c.2.1)&&decide (c.2.1<=c.2.2.1)&&decide (c.2.2.1<=5000))&&(decide (100<=c.2.2.2.1)&&decide (c.2.2.2.1<=c.2.2.2.2)&&decide (c.2.2.2.2<=5000))
theorem Fw{c:p8}(h:J2 c=true)(k m:Int):0<=C6 c k m/\C6 c k m<=5000:=by
 grind[J2,C6]
theorem RE(u:wf j3 b)(j:x5 b=true){c:p8}(hc:J2 c=true){q:Int}(z:j6 q 0 (((lV b).length:Int)-1)=true)(s m:Int) :
  ∃r,N1 (l6 b) c q s m=some r/\BA b c ((lV b).getD q.toNat (a6 y138)) s m=some r /\ -6000000<=r/\r<=6000000:=by
 have z:=B3.1 z;have g:ix q (l6 b).2.2.1.length:=⟨z.1,by show q < ((lV b).length:Int); omega⟩;generalize hl:(lV b).getD q.toNat (a6 y138)=l;have f:(l6 b).2.2.1.getD q.toNat (a6 y138)=l:=hl;have e:l∈lV b:=by rw[<- hl]; exact L8 (by omega)
 have hf:=Fw hc l.2.2.1 m;have d:∀p:Int,-1000000<=p->p<=1000000->AZ c l m p=some (q8 (p*C6 c l.2.2.1 m) 1000 m)/\Jw c l m p=some (q8 (p*C6 c l.2.2.1 m) 1000 m) /\ -6000000<=q8 (p*C6 c l.2.2.1 m) 1000 m/\q8 (p*C6 c l.2.2.1 m) 1000 m<=6000000:=fun p p0 p1=>by
  have hp:=L9 (A:=1000000) (B:=5000) (x:=p) (y:=C6 c l.2.2.1 m) (by omega) (by omega) (by omega) (by omega) (by decide);have t:=W6 (p*C6 c l.2.2.1 m) 1000 m (by omega) (by omega) (by decide);have T:=GF (a:=p*C6 c l.2.2.1 m) (b:=1000) (K:=6000000) m (by decide) (by omega) (by omega);have v:AY p (C6 c l.2.2.1 m) m=some (q8 (p*C6 c l.2.2.1 m) 1000 m):=by
   unfold AY;rw[t.1,vS,gP ⟨oo,rfl,trivial⟩,lE]
  refine⟨?_,?_,T⟩
  ·rw[AZ,Ov,vS,v,vS,gP ⟨rfl,rfl,trivial⟩,lE]
  ·rw[Jw,P0n,vS,t.2,vS,gP ⟨rfl,oo,rfl,trivial⟩,lE]
 rcases Iu j e with ⟨a,n,h⟩ | ⟨n,k,h⟩
 ·obtain⟨Q,W⟩:=DD h.del h.trs;obtain⟨r,l1,l2,l3,Y⟩:=Kx W s ((A3 b n).getD 0 0) m;obtain⟨F,E⟩:=IA b h.nlt;obtain⟨G,w,o⟩:=d r l3 Y;refine⟨_,?_,?_,o⟩
  ·unfold N1;refine(gP ⟨g,trivial⟩).trans ?_;rw[lE,f,Ar h.pix h.net,vS,gP ⟨rfl,trivial⟩,lE];refine(if_pos (by rw[h.kind]; rfl)).trans ?_;rw[Iv h,vS,F,l1,vS];refine(gP ⟨rfl,by decide,Q,E,rfl,trivial⟩).trans ?_;rw[lE];exact G
  ·unfold BA;refine(if_pos (by rw[h.kind]; rfl)).trans ?_;rw[M0K u j h,vS,gP ⟨rfl,trivial⟩,lE];show gd (_/\ix (l.2.1.tmod 2) a.2.2.2.2.1.length/\(Cp (a.2.2.2.2.1.getD (l.2.1.tmod 2).toNat (a6 y269)) s ((A3 b n).getD 0 0) m).isSome=true/\True) (lt (vl (Cp (a.2.2.2.2.1.getD (l.2.1.tmod 2).toNat (a6 y269)) s ((A3 b n).getD 0 0) m)) fun v1=>Jw c l m v1)=_;rw[l2,vS,gP ⟨by decide,Q,rfl,trivial⟩,lE];exact w
 ·have H:=BQ j h.nlt;obtain⟨dl,X⟩:=H.delays;have t:=X (r9 b n k).toNat;obtain⟨F,E⟩:=IB b h.nlt;have aA:=Iq b n;have i:=h.klt;have V:=u0R b n m;have P:((k:Int)).toNat=k:=rfl;have T:=GF (a:=(A9 b n).getD (r9 b n k).toNat 0) (b:=1000) (K:=301000) m (by decide) (by omega) (by omega);obtain⟨G,w,o⟩:=d (q8 ((A9 b n).getD (r9 b n k).toNat 0) 1000 m) (by omega) (by omega);refine⟨_,?_,?_,o⟩
  ·unfold N1;refine(gP ⟨g,trivial⟩).trans ?_;rw[lE,f,Ar h.pix h.net,vS,gP ⟨rfl,trivial⟩,lE];refine(if_neg (by rw[h.kind]; decide)).trans ?_;rw[F,h.idx,P,Ip i,(W6 _ 1000 m (by omega) (by omega) (by decide)).1,vS];refine(gP ⟨E,oo,rfl,trivial⟩).trans ?_;rw[lE];exact G
  ·unfold BA;refine(if_neg (by rw[h.kind]; decide)).trans ?_;rw[M0J u j h,vS,P0o b u H,vS,h.idx,P,gP ⟨rfl,rfl,oo,by omega,trivial⟩,lE,u0S i];exact w
theorem M0H(s:Int):Gk s=some (j6 s 0 1000000):=by
 unfold Gk;rw[Al,vS,gP ⟨rfl,trivial⟩]
end
theorem WD{b:j0}{q:Int}(h:j6 q 0 (((lV b).length:Int)-1)=true):ix q (lV b).length/\q.toNat < (lV b).length:=by
 have:=B3.1 h;exact⟨oo,by omega⟩
theorem P0I(c:p8)(e:wf q4 c):HO c=some (J2 c):=by
 have d:∀a b,HN a b=some (decide (100<=a)&&decide (a<=b)&&decide (b<=5000)):=fun _ _=>rfl;unfold HO J2;rw[Wb _ e.1,vS,d,vS,d,vS,gP ⟨rfl,(fun _=>rfl),(fun _=>rfl),trivial⟩]
def WG(c:p8)(i:Nat):Bool:=!j6 ([c.2.1,c.2.2.1,c.2.2.2.1,c.2.2.2.2].getD i 0) 100 5000
theorem r84(c:p8)(k:wf q4 c):DY c=some (J2 c):=by
 unfold DY;rw[lE];have b:=K4 (n:=4) (by decide) (WG c) (some false) (e:=Ms c ()) (F:=PV [c.2.1,c.2.2.1,c.2.2.2.1,c.2.2.2.2] c) (fun g i hi=>by
  have j:((i:Int)).toNat=i:=rfl;have d:([c.2.1,c.2.2.1,c.2.2.2.1,c.2.2.2.2]:List Int).length=4:=rfl;refine(if_pos (decide_eq_true (by rw[d]; omega))).trans ?_;rw[j,U8,vS,gP ⟨⟨by omega,by rw[d]; omega⟩,hi,rfl,trivial⟩,gP ⟨oo,trivial⟩];rfl) (fun g=>by
  show PV [c.2.1,c.2.2.1,c.2.2.2.1,c.2.2.2.2] c g (((4:Nat):Int))=_;rw[PV];exact if_neg (by simp))
 refine b.trans ?_;have l:Ms c ()=some (K2 c.1&&decide (c.2.1<=c.2.2.1)&&decide (c.2.2.2.1<=c.2.2.2.2)):=by
  unfold Ms;rw[Rq _ k.1,vS,gP ⟨rfl,trivial⟩]
 rw[l];have o:(List.range 4).any (WG c)=(!j6 c.2.1 100 5000||(!j6 c.2.2.1 100 5000||(!j6 c.2.2.2.1 100 5000||(!j6 c.2.2.2.2 100 5000||false)))):=rfl;have q:(if(List.range 4).any (WG c)=true then false else(K2 c.1&&decide (c.2.1<=c.2.2.1)&&decide (c.2.2.2.1<=c.2.2.2.2)))=J2 c:=by
  rw[o,Bool.eq_iff_iff];unfold J2 j6;by_cases h:(!(decide (100<=c.2.1)&&decide (c.2.1<=5000))||(!(decide (100<=c.2.2.1)&&decide (c.2.2.1<=5000))||(!(decide (100<=c.2.2.2.1)&&decide (c.2.2.2.1<=5000))||(!(decide (100<=c.2.2.2.2)&&decide (c.2.2.2.2<=5000))||false))))=true
  ·rw[if_pos h];simp only[Bool.or_eq_true,Bool.not_eq_true',Bool.and_eq_false_iff,decide_eq_false_iff_not,Bool.false_eq_true,or_false] at h;simp only[ba,dq,Bool.false_eq_true,false_iff];rintro⟨⟨_,a⟩,f⟩;omega
  ·rw[if_neg h];simp only[Bool.or_eq_true,Bool.not_eq_true',Bool.and_eq_false_iff,decide_eq_false_iff_not,Bool.false_eq_true,or_false] at h;simp only[ba,dq];constructor
   ·rintro⟨⟨a,f⟩,m⟩;exact⟨⟨a,by omega⟩,by omega⟩
   ·rintro⟨⟨a,f⟩,m⟩;exact⟨⟨a,by omega⟩,by omega⟩
 rw[<- q];split <;> rfl
end Go.Proofs.YtechodbafnmddaaGreatDoor
end
section
namespace Go.Proofs.YtechodbafnmddaaGreatDoor
open Go Go.Proofs Go.Proofs.Xv Go.Proofs.Xl Go.Proofs.Xd
theorem Ky{a b:Int}(m:Int)(c:0<=a)(d:0<b):0<=q8 a b m:=by
 unfold q8;have e:=Int.emod_nonneg a (Int.ne_of_gt d);have f:0<=a / b:=Int.ediv_nonneg c (Int.le_of_lt d);rw[Int.tdiv_eq_ediv_of_nonneg c,Int.tmod_eq_emod_of_nonneg c,if_neg (by rw[ba,dq]; omega)];split <;> omega
theorem v0A(xs:List Int):∀n i,i<=n->fN (fun i m=>min m (xs.getD (i+1) 0)) n (xs.getD 0 0)<=xs.getD i 0
 | 0,i,h=>by
   have:i=0:=by omega
   subst this;exact Int.le_refl _
 | n+1,i,h=>by
   show min (fN (fun i m=>min m (xs.getD (i+1) 0)) n (xs.getD 0 0)) (xs.getD (n+1) 0)<=_;rcases Nat.lt_or_ge n i with a | a
   ·have:i=n+1:=by omega
    subst this;omega
   ·have:=v0A xs n i a;omega
theorem RF{l:List Fk}(h:I8 l true=true){t:Fk}(b:t∈l):∀i,i<t.2.2.length->0<=t.2.2.getD i 0:=fun i hi=>by
 unfold I8 at h;rw[ba] at h;have:=List.all_eq_true.1 h.2 t b;simp only[Bool.true_and,ba,Bool.not_eq_true',decide_eq_false_iff_not] at this;have c:=v0A t.2.2 (t.2.2.length-1) i (by omega);have a:¬Bh t.2.2<0:=this.2;unfold Bh at a;omega
theorem RG{t:q5}(f:∀i,i<t.2.2.length->0<=t.2.2.getD i 0){r q:Nat}{w c d:Int}(b:0<=w)(g:0<=c)(e:0<=d):0<=o5 t r q w c d:=by
 have a:∀r q,0<=K6 t r q:=fun r q=>by
  unfold K6;rcases Nat.lt_or_ge (r*t.2.1.length+q) t.2.2.length with h | h
  ·exact f _ h
  ·rw[gq,List.getElem?_eq_none h]; exact Int.le_refl _
 unfold o5;have j:=Int.mul_nonneg (Int.mul_nonneg (a r q) b) g;have k:=Int.mul_nonneg (Int.mul_nonneg (a r (q+1)) b) e;omega
theorem r0e{t:q5}(h:D2 t=true)(E:∀i,i<t.2.2.length->0<=t.2.2.getD i 0)(s l m:Int):∀r,L7 t s l m=some r->0<=r:=by
 intro r z;have k:I7 t.1=true/\I7 t.2.1=true:=by
  simp only[D2,ba] at h;exact⟨h.1.1.1,h.1.1.2⟩
 obtain⟨p,a,b,L,j,F,V,H⟩:=Iz s k.1;obtain⟨q,c,d,M,v,n,h3,G⟩:=Iz l k.2;have g:0<=a/\0<=b/\1<=a+b/\a+b<=100000/\a<=100000/\b<=100000/\(b≠0->p+1<t.1.length):=by
  rcases F with ⟨rfl,rfl,_⟩ | ⟨_,_,_,_,_⟩ <;> omega
 have e:0<=c/\0<=d/\1<=c+d/\c+d<=100000:=by
  rcases n with ⟨rfl,rfl,_⟩ | ⟨_,_,_,_,_⟩ <;> omega
 have T:=L9 (A:=100000) (B:=100000) (x:=a+b) (y:=c+d) (by omega) (by omega) (by omega) (by omega) (by decide);have f:0 < (a+b)*(c+d):=Int.mul_pos (by omega) (by omega);have Q:=Kw h j v n (w:=a) (by omega);have W : -(1000000*(b*(c+d)))<=(if b=0 then 0 else o5 t (p+1) q b c d)/\(if b=0 then 0 else o5 t (p+1) q b c d)<=1000000*(b*(c+d)):=by
  by_cases hz:b=0
  ·rw[if_pos hz,hz,Int.zero_mul]; decide
  ·rw[if_neg hz]; exact Kw h (g.2.2.2.2.2.2 hz) v n (by omega)
 have X:=RG E (r:=p) (q:=q) g.1 e.1 e.2.1;have Y:0<=(if b=0 then 0 else o5 t (p+1) q b c d):=by
  split
  ·exact Int.le_refl _
  ·exact RG E g.2.1 e.1 e.2.1
 have ed:1000000*((a+b)*(c+d))=1000000*(a*(c+d))+1000000*(b*(c+d)):=by rw[Int.add_mul,Int.mul_add 1000000]
 have o:=(W6 (o5 t p q a c d+(if b=0 then 0 else o5 t (p+1) q b c d)) ((a+b)*(c+d)) m (by omega) (by omega) f).1;have P:b7 ((a+b)*(c+d)):=oo;have u:L7 t s l m=some (q8 (o5 t p q a c d+(if b=0 then 0 else o5 t (p+1) q b c d)) ((a+b)*(c+d)) m):=by
  unfold L7;rw[H,gP ⟨rfl,trivial⟩,vS,lE,G,gP ⟨rfl,trivial⟩,vS,lE,WB h j v F n,JG,o,gP ⟨P,rfl,trivial⟩,vS,lE]
 rw[u] at z;cases z;exact Ky m (by omega) f
end Go.Proofs.YtechodbafnmddaaGreatDoor
end
section
namespace Go.Proofs.YtechodbafnmddaaGreatDoor
open Go Go.Proofs Go.Proofs.Sv Go.Proofs.Xv Go.Proofs.Xl Go.Proofs.Xd
theorem RH{a:Int}(m:Int)(h:0<=a):q8 a 1000 m=if 0<a % 1000/\m=1 then a / 1000+1 else a / 1000:=by
 unfold q8;have b:=Int.emod_nonneg a (show(1000:Int)≠0 by decide);rw[Int.tdiv_eq_ediv_of_nonneg h,Int.tmod_eq_emod_of_nonneg h,if_neg (by rw[ba,dq]; omega)];by_cases c:0<a % 1000/\m=1
 ·rw[if_pos c,if_pos (by rw[ba,dq,beq_iff_eq]; exact c)]
 ·rw[if_neg c,if_neg (by rw[ba,dq,beq_iff_eq]; exact c)]
theorem w0n{a b:Int}(m:Int)(h:0<=a)(c:a<=b):q8 a 1000 m<=q8 b 1000 m:=by
 rw[RH m h,RH m (by omega)];split <;> split <;> omega
theorem WH{a b:Int}(h:0<=a)(c:a<=b):q8 a 1000 0<=q8 b 1000 1:=by
 rw[RH 0 h,RH 1 (by omega)];rw[if_neg (by omega)];split <;> omega
theorem v0t{p x y:Int}(a:0<=p)(h:x<=y):p*x<=p*y:=Int.mul_le_mul_of_nonneg_left h a
section
variable {b:j0}
structure U0Q(b:j0)(q:Int)(B:Int->Int->Int):Prop where
 bd:∀s m,0<=B s m/\B s m<=1000000
 val:∀c,J2 c=true->∀s m,N1 (l6 b) c q s m=some (q8 (B s m*C6 c ((lV b).getD q.toNat (a6 y138)).2.2.1 m) 1000 m)
theorem E0H(T:x5 b=true){q:Int}(F:j6 q 0 (((lV b).length:Int)-1)=true):∃B,U0Q b q B:=by
 have F:=B3.1 F;have j:ix q (l6 b).2.2.1.length:=⟨F.1,by show q < ((lV b).length:Int); omega⟩;generalize hl:(lV b).getD q.toNat (a6 y138)=l;have i:(l6 b).2.2.1.getD q.toNat (a6 y138)=l:=hl;have f:l∈lV b:=by rw[<- hl]; exact L8 (by omega)
 have e:∀(c:p8) (m p:Int),J2 c=true -> -1000000<=p->p<=1000000->AZ c l m p=some (q8 (p*C6 c l.2.2.1 m) 1000 m):=fun c m p g p0 p1=>by
  have hf:=Fw g l.2.2.1 m;have hp:=L9 (A:=1000000) (B:=5000) (x:=p) (y:=C6 c l.2.2.1 m) (by omega) (by omega) (by omega) (by omega) (by decide);have W:=W6 (p*C6 c l.2.2.1 m) 1000 m (by omega) (by omega) (by decide);have z:AY p (C6 c l.2.2.1 m) m=some (q8 (p*C6 c l.2.2.1 m) 1000 m):=by
   unfold AY;rw[W.1,vS,gP ⟨oo,rfl,trivial⟩,lE]
  rw[AZ,Ov,vS,z,vS,gP ⟨rfl,rfl,trivial⟩,lE]
 rcases Iu T f with ⟨a,n,h⟩ | ⟨n,k,h⟩
 ·obtain⟨E,w⟩:=DD h.del h.trs;have v:(l.2.1.tmod 2).toNat<a.2.2.2.2.1.length:=by have:=E.1; have:=E.2; omega
  have t:=RF h.del (L8 (d:=a6 y269) v);obtain⟨Q,P⟩:=IA b h.nlt;refine⟨fun s m=>vl (L7 (a.2.2.2.2.1.getD (l.2.1.tmod 2).toNat (a6 y269)) s ((A3 b n).getD 0 0) m),⟨fun s m=>?_,fun c g s m=>?_⟩⟩
  ·obtain⟨r,o,l2,X,V⟩:=Kx w s ((A3 b n).getD 0 0) m;have:=r0e w t s ((A3 b n).getD 0 0) m r o;rw[o,vS];omega
  ·obtain⟨r,o,l2,X,V⟩:=Kx w s ((A3 b n).getD 0 0) m;show _=some (q8 (vl (L7 (a.2.2.2.2.1.getD (l.2.1.tmod 2).toNat (a6 y269)) s ((A3 b n).getD 0 0) m)*C6 c ((lV b).getD q.toNat (a6 y138)).2.2.1 m) 1000 m);rw[hl];unfold N1;refine(gP ⟨j,trivial⟩).trans ?_;rw[lE,i,Ar h.pix h.net,vS,gP ⟨rfl,trivial⟩,lE];refine(if_pos (by rw[h.kind]; rfl)).trans ?_;rw[Iv h,vS,Q,o,vS];refine(gP ⟨rfl,by decide,E,P,rfl,trivial⟩).trans ?_;rw[lE];exact e c m r g X V
 ·have no:=BQ T h.nlt;obtain⟨dl,Y⟩:=no.delays;have W:=Y (r9 b n k).toNat;obtain⟨Q,P⟩:=IB b h.nlt;have aA:=Iq b n;have G:=h.klt;have e4:((k:Int)).toNat=k:=rfl;have H:=fun m=>GF (a:=(A9 b n).getD (r9 b n k).toNat 0) (b:=1000) (K:=301000) m (by decide) (by omega) (by omega);have u:=fun m=>Ky (a:=(A9 b n).getD (r9 b n k).toNat 0) (b:=1000) m (by omega) (by decide);refine⟨fun _ m=>q8 ((A9 b n).getD (r9 b n k).toNat 0) 1000 m,⟨fun s m=>⟨u m,by have:=(H m).2; omega⟩,fun c g s m=>?_⟩⟩;show _=some (q8 (q8 ((A9 b n).getD (r9 b n k).toNat 0) 1000 m*C6 c ((lV b).getD q.toNat (a6 y138)).2.2.1 m) 1000 m);rw[hl];unfold N1;refine(gP ⟨j,trivial⟩).trans ?_;rw[lE,i,Ar h.pix h.net,vS,gP ⟨rfl,trivial⟩,lE];refine(if_neg (by rw[h.kind]; decide)).trans ?_;rw[Q,h.idx,e4,Ip G,(W6 _ 1000 m (by omega) (by omega) (by decide)).1,vS];refine(gP ⟨P,oo,rfl,trivial⟩).trans ?_;rw[lE];exact e c m _ g (by have:=H m; omega) (by have:=H m; omega)
end
theorem E0R{a b c:Int}(g:0<=a)(f:0<b)(h:a<=c*b):q8 a b 1<=c:=by
 rw[BT g f];have e:=Int.mul_ediv_add_emod a b;split
 ·rename_i hz;rcases Int.lt_or_le (a / b) c with d | d
  ·omega
  ·have:=Int.mul_le_mul_of_nonneg_right d (show 0<=b by omega);have:b*(a / b)=a / b*b:=Int.mul_comm _ _;omega
 ·exact Int.ediv_le_of_le_mul f h
theorem E0p{a b:Int}(d:0<=a)(c:0<b):a<=q8 a b 1*b:=by
 rw[BT d c];have e:=Int.mul_ediv_add_emod a b;have g:=Int.emod_lt_of_pos a c;have f:=Int.emod_nonneg a (show b≠0 by omega);have:b*(a / b)=a / b*b:=Int.mul_comm _ _;split
 ·grind
 ·omega
theorem Kz{a b c d:Int}(i:0<=a)(f:0<b)(j:0<=c)(e:0<d)(h:a*d<=c*b){m:Int}(l:m=0∨m=1):q8 a b m<=q8 c d m:=by
 rcases l with rfl | rfl
 ·rw[Fu i f,Fu j e,Int.le_ediv_iff_mul_le e];have k:=Int.mul_le_mul_of_nonneg_right (Int.ediv_mul_le a (show b≠0 by omega)) (show 0<=d by omega);have g:a / b*d*b<=c*b:=by rw[Int.mul_assoc,Int.mul_comm d b,<- Int.mul_assoc]; omega
  exact Int.le_of_mul_le_mul_right g f
 ·refine E0R i f ?_;have k:=Int.mul_le_mul_of_nonneg_right (E0p j e) (show 0<=b by omega);have g:a*d<=q8 c d 1*b*d:=by rw[Int.mul_assoc,Int.mul_comm b d,<- Int.mul_assoc]; omega
  exact Int.le_of_mul_le_mul_right g e
theorem E0x{a b:Int}(d:0<=a)(c:0<b):q8 a b 0<=q8 a b 1:=by
 grind[Fu,BT]
theorem F0D{xs:List Int}(h:I7 xs=true){p:Nat}(a:p<xs.length):Q3 xs (xs.getD p 0)=some ([((p:Int),1)],1):=by
 obtain⟨k,j⟩:=Dw h;have g:((xs.length:Int)-1).toNat=xs.length-1:=by omega
 have l:xs.getD 0 0<=xs.getD p 0:=by
  rcases Nat.eq_zero_or_pos p with e | e
  ·grind
  ·have:=DC h e a; omega
 have m:xs.getD p 0<=xs.getD (xs.length-1) 0:=by
  rcases Nat.lt_or_ge p (xs.length-1) with e | e
  ·have:=DC h e (by omega); omega
  ·grind
 have b:A5 xs (xs.getD p 0)=xs.getD p 0:=by unfold A5; omega
 have c:∀i,i<p->xs.getD i 0<A5 xs (xs.getD p 0):=fun i hi=>by rw[b]; exact DC h hi a
 have f:∀i,p<=i->i<xs.length->A5 xs (xs.getD p 0)<=xs.getD i 0:=fun i hi d=>by
  rw[b];rcases Nat.eq_or_lt_of_le hi with e | e
  ·grind
  ·have:=DC h e d; omega
 unfold Q3;rw[gP ⟨oo,oo,oo,trivial⟩,g];change lt (A5 xs (xs.getD p 0)) _=_;rw[lE,Ot (by omega) a c f,gP ⟨rfl,trivial⟩,vS,lE,if_pos (by grind)]
theorem RJ{t:q5}(k:D2 t=true)(_:∀i,i<t.2.2.length->0<=t.2.2.getD i 0){s l:Int}{p q:Nat}{a b c d:Int}{L M:List (Int×Int)}(e:p<t.1.length)(o:Sh t.1.length p a b L)(u:Q3 t.1 s=some (L,a+b))(n:q<t.2.1.length)(g:Sh t.2.1.length q c d M)(r:Q3 t.2.1 l=some (M,c+d))(m:Int) :
  L7 t s l m=some (q8 (o5 t p q a c d+(if b=0 then 0 else o5 t (p+1) q b c d)) ((a+b)*(c+d)) m):=by
 have h:0<=a/\0<=b/\1<=a+b/\a+b<=100000/\a<=100000/\b<=100000/\(b≠0->p+1<t.1.length):=by
  rcases o with ⟨rfl,rfl,_⟩ | ⟨_,_,_,_,_⟩ <;> omega
 have z:0<=c/\0<=d/\1<=c+d/\c+d<=100000:=by
  rcases g with ⟨rfl,rfl,_⟩ | ⟨_,_,_,_,_⟩ <;> omega
 have F:=L9 (A:=100000) (B:=100000) (x:=a+b) (y:=c+d) (by omega) (by omega) (by omega) (by omega) (by decide);have f:0 < (a+b)*(c+d):=Int.mul_pos (by omega) (by omega);have E:=Kw k e n g (w:=a) (by omega);have G : -(1000000*(b*(c+d)))<=(if b=0 then 0 else o5 t (p+1) q b c d)/\(if b=0 then 0 else o5 t (p+1) q b c d)<=1000000*(b*(c+d)):=by
  by_cases hz:b=0
  ·grind
  ·rw[if_neg hz]; exact Kw k (h.2.2.2.2.2.2 hz) n g (by omega)
 have H:1000000*((a+b)*(c+d))=1000000*(a*(c+d))+1000000*(b*(c+d)):=by grind
 have j:=(W6 (o5 t p q a c d+(if b=0 then 0 else o5 t (p+1) q b c d)) ((a+b)*(c+d)) m (by omega) (by omega) f).1;have v:b7 ((a+b)*(c+d)):=oo;unfold L7;rw[u,gP ⟨rfl,trivial⟩,vS,lE,r,gP ⟨rfl,trivial⟩,vS,lE,WB k e n o g,JG,j,gP ⟨v,rfl,trivial⟩,vS,lE]
theorem Ow(t:q5)(r q:Nat)(w c d:Int):o5 t r q w c d=w*o5 t r q 1 c d:=by
 grind[o5]
structure Ox(t:q5)(l:Int)(V:Int->Int->Int):Prop where
 val:∀s m,L7 t s l m=some (V s m)
 pos:∀s m,0<=V s m
 two:∀s,V s 0<=V s 1
 lo:∀s,∃i,i<t.1.length/\V (t.1.getD i 0) 0<=V s 0
 hi:∀s,∃i,i<t.1.length/\V s 1<=V (t.1.getD i 0) 1
theorem E0j{t:q5}(y:D2 t=true)(H:∀i,i<t.2.2.length->0<=t.2.2.getD i 0)(l:Int):∃V,Ox t l V:=by
 have v:I7 t.1=true/\I7 t.2.1=true:=by
  simp only[D2,ba] at y;exact⟨y.1.1.1,y.1.1.2⟩
 obtain⟨q,c,d,M,Q,G,Y,P⟩:=Iz l v.2;have z:0<=c/\0<=d/\1<=c+d/\c+d<=100000:=by
  rcases G with ⟨rfl,rfl,_⟩ | ⟨_,_,_,_,_⟩ <;> omega
 have F:∀r,0<=o5 t r q 1 c d:=fun r=>RG H (by decide) z.1 z.2.1;have j:∀s,∃(p:Nat) (a b:Int),p<t.1.length/\0<=a/\0<=b/\1<=a+b/\(b≠0->p+1<t.1.length)/\∀m,L7 t s l m=some (q8 (a*o5 t p q 1 c d+b*o5 t (p+1) q 1 c d) ((a+b)*(c+d)) m):=fun s=>by
  obtain⟨p,a,b,L,g,T,X,W⟩:=Iz s v.1;have e:0<=a/\0<=b/\1<=a+b/\(b≠0->p+1<t.1.length):=by
   rcases T with ⟨rfl,rfl,_⟩ | ⟨_,_,_,_,_⟩ <;> omega
  refine⟨p,a,b,g,e.1,e.2.1,e.2.2.1,e.2.2.2,fun m=>?_⟩;rw[RJ y H g T W Q G P m];by_cases hz:b=0
  ·rw[if_pos hz,Ow t p q a,hz,Int.zero_mul]
  ·rw[if_neg hz,Ow t p q a,Ow t (p+1) q b]
 have E:∀p,p<t.1.length->∀m,L7 t (t.1.getD p 0) l m=some (q8 (o5 t p q 1 c d) (c+d) m):=fun p g m=>by
  have:=RJ y H (a:=1) (b:=0) g (.inl ⟨rfl,rfl,rfl⟩) (F0D v.1 g) Q G P m;rw[this,if_pos rfl,Int.add_zero,Int.add_zero,Int.one_mul]
 have u:∀{a b:Int} (p:Nat),0<=a->0<=b->0<=a*o5 t p q 1 c d+b*o5 t (p+1) q 1 c d:=fun p n k=>by
  have:=Int.mul_nonneg n (F p);have:=Int.mul_nonneg k (F (p+1));omega
 have c7:∀{a b:Int},1<=a+b->0 < (a+b)*(c+d):=fun h=>Int.mul_pos (by omega) (by omega);refine⟨fun s m=>vl (L7 t s l m),⟨fun s m=>?_,fun s m=>?_,fun s=>?_,fun s=>?_,fun s=>?_⟩⟩
 ·obtain⟨p,a,b,_,_,_,_,_,h⟩:=j s
  grind[vl,L7,vS]
 ·obtain⟨p,a,b,_,n,k,e,_,h⟩:=j s;show 0<=vl (L7 t s l m);rw[h,vS];exact Ky m (u p n k) (c7 e)
 ·obtain⟨p,a,b,_,n,k,e,_,h⟩:=j s;show vl (L7 t s l 0)<=vl (L7 t s l 1);rw[h,h,vS,vS];exact E0x (u p n k) (c7 e)
 ·obtain⟨p,a,b,g,n,k,e,w,h⟩:=j s;have o:∀r,r<t.1.length->(a+b)*o5 t r q 1 c d<=a*o5 t p q 1 c d+b*o5 t (p+1) q 1 c d->∃i,i<t.1.length/\vl (L7 t (t.1.getD i 0) l 0)<=vl (L7 t s l 0):=fun r x f=>by
   refine⟨r,x,?_⟩;rw[h,E r x,vS,vS];refine Kz (F r) (by omega) (u p n k) (c7 e) ?_ (.inl rfl);have:=Int.mul_le_mul_of_nonneg_right f (show 0<=c+d by omega)
   grind
  by_cases hz:b=0
  ·grind
  ·rcases Int.le_total (o5 t p q 1 c d) (o5 t (p+1) q 1 c d) with f | f
   ·refine o p g ?_;have:=Int.mul_le_mul_of_nonneg_left f k
    grind
   ·refine o (p+1) (w hz) ?_;have:=Int.mul_le_mul_of_nonneg_left f n
    grind
 ·obtain⟨p,a,b,g,n,k,e,w,h⟩:=j s;have o:∀r,r<t.1.length->a*o5 t p q 1 c d+b*o5 t (p+1) q 1 c d<=(a+b)*o5 t r q 1 c d->∃i,i<t.1.length/\vl (L7 t s l 1)<=vl (L7 t (t.1.getD i 0) l 1):=fun r x f=>by
   refine⟨r,x,?_⟩;rw[h,E r x,vS,vS];refine Kz (u p n k) (c7 e) (F r) (by omega) ?_ (.inr rfl);have:=Int.mul_le_mul_of_nonneg_right f (show 0<=c+d by omega)
   grind
  by_cases hz:b=0
  ·grind
  ·rcases Int.le_total (o5 t p q 1 c d) (o5 t (p+1) q 1 c d) with f | f
   ·refine o (p+1) (w hz) ?_;have:=Int.mul_le_mul_of_nonneg_left f n
    grind
   ·refine o p g ?_;have:=Int.mul_le_mul_of_nonneg_left f k
    grind
theorem t0v{s d:Int}(e:0<=s)(q:s<=1000000)(c:0<=d)(t:d<=301000000):∃r z,X6 s d 0=some r/\X6 s d 1=some z/\r<=z:=by
 obtain⟨l,v,w⟩:=RC s d;have o:=L9 (A:=1000000) (B:=1000000) (x:=s) (y:=s) (by omega) (by omega) (by omega) (by omega) (by decide);have u:=L9 (A:=301000000) (B:=301000000) (x:=d) (y:=d) (by omega) (by omega) (by omega) (by omega) (by decide);have i:0<=s*s:=Int.mul_nonneg e e;have g:0<=d*d:=Int.mul_nonneg c c;obtain⟨R,f,j,h⟩:=Ww (n:=250000*(s*s)+d*d) (by omega) (by omega);have b:=f.1;have k:=L9 (A:=3000000000) (B:=3000000000) (x:=R) (y:=R) (by omega) (by omega) (by omega) (by omega) (by decide);have a:∀m,X6 s d m=some (P8 (250000*(s*s)+d*d) m R):=fun m=>by
  unfold X6;rw[l,h,vS,gP ⟨oo,oo,oo,oo,oo,trivial⟩,gP ⟨rfl,trivial⟩,lE,gP ⟨(fun _=>oo),trivial⟩];unfold P8;split
  ·have:R.tdiv 500=R / 500:=Int.tdiv_eq_ediv_of_nonneg b;exact gP ⟨by decide,oo,trivial⟩
  ·rw[(W6 R 500 m (by omega) (by omega) (by decide)).1,vS,gP ⟨rfl,trivial⟩,lE]
 refine⟨_,_,a 0,a 1,?_⟩;unfold P8;rw[if_neg (by simp),Fu b (by decide)]
 grind[Int.tdiv_eq_ediv_of_nonneg,BT]
def H5(s:Int×Int):Bool:=j6 s.1 (-1000000000) 1000000000&&j6 s.2 (-1000000000) 1000000000&&decide (s.1<=s.2)
def D7(s:Int×Int):Bool:=H5 s&&j6 s.1 0 1000000&&j6 s.2 0 1000000
theorem M0j(s:Int×Int):BD s=some (D7 s):=by
 have e:∀x,Gc x=some (j6 x (-1000000000) 1000000000):=fun _=>rfl;have a:M8 s=some (H5 s):=by
  unfold M8;rw[e,e,vS,vS];exact gP ⟨rfl,fun _=>rfl,trivial⟩
 unfold BD;rw[a,vS,M0H,M0H,vS,vS];exact gP ⟨rfl,fun _=>rfl,fun _=>rfl,trivial⟩
theorem M0M(s:Int×Int):BD s=some (D7 s)/\Dk s=some (D7 s):=by
 refine⟨M0j s,?_⟩;unfold Dk;refine congrArg some ?_;unfold D7 H5 j6;rw[Bool.eq_iff_iff];simp only[ba,dq];omega
theorem s0P{b:j0}(e:wf j3 b)(d:x5 b=true){c:p8}(g:J2 c=true){q:Int}(a:j6 q 0 (((lV b).length:Int)-1)=true)(sp:Int×Int)(f:D7 sp=true) :
  ∃v:(Int×Int)×Int×Int,Cv (l6 b) c q sp=some v/\FT b c ((lV b).getD q.toNat (a6 y138)) sp=some v:=by
 unfold D7 at f;rw[ba,ba] at f;have i:=B3.1 f.1.2;have h:=B3.1 f.2;have j:=B3.1 a;have k:ix q (l6 b).2.2.1.length:=⟨j.1,by show q < ((lV b).length:Int); omega⟩;obtain⟨r,X,E,_⟩:=RE e d g a sp.1 0;obtain⟨o,P,x,_⟩:=RE e d g a sp.2 0;obtain⟨n,Y,s,_⟩:=RE e d g a sp.1 1;obtain⟨l,w,T,_⟩:=RE e d g a sp.2 1;obtain⟨F,W,y,_⟩:=Ou e d a i.1 i.2 (m:=0) (.inl rfl);obtain⟨Q,t,V,_⟩:=Ou e d a h.1 h.2 (m:=0) (.inl rfl);obtain⟨u,e3,z,_⟩:=Ou e d a i.1 i.2 (m:=1) (.inr rfl);obtain⟨H,G,f4,_⟩:=Ou e d a h.1 h.2 (m:=1) (.inr rfl);refine⟨((min r o,max n l),min F Q,max u H),?_,?_⟩
 ·unfold Cv;rw[X,P,Y,w];refine(gP ⟨rfl,rfl,rfl,rfl,trivial⟩).trans ?_;rw[lE];refine(gP ⟨k,trivial⟩).trans ?_;rw[lE];refine(if_neg ?_).trans ?_
  ·show ¬(decide ((0:Int)<0)&&_)=true;simp
  ·show HE (l6 b) q sp (min r o,max n l)=_;rw[HE,W,t,e3,G];rfl
 ·unfold FT;rw[E,s,y,z,x,T,V,f4];rfl
section
variable {b:j0}
theorem r0y(_:x5 b=true){q:Int}(i:j6 q 0 (((lV b).length:Int)-1)=true){a:G5}{n:Nat}(h:Oq b ((lV b).getD q.toNat (a6 y138)) a n){V:Int->Int->Int}(f:Ox (a.2.2.2.2.1.getD (((lV b).getD q.toNat (a6 y138)).2.1.tmod 2).toNat (a6 y269)) ((A3 b n).getD 0 0) V)(d:∀s m,V s m<=1000000){c:p8}(o:J2 c=true)(s m:Int) :
  N1 (l6 b) c q s m=some (q8 (V s m*C6 c ((lV b).getD q.toNat (a6 y138)).2.2.1 m) 1000 m):=by
 have i:=B3.1 i;have g:ix q (l6 b).2.2.1.length:=⟨i.1,by show q < ((lV b).length:Int); omega⟩;generalize hl:(lV b).getD q.toNat (a6 y138)=l at h f;have e:(l6 b).2.2.1.getD q.toNat (a6 y138)=l:=hl;have v:=f.pos s m;have z:=d s m;have F:=Fw o l.2.2.1 m;have w:=L9 (A:=1000000) (B:=5000) (x:=V s m) (y:=C6 c l.2.2.1 m) (by omega) (by omega) (by omega) (by omega) (by decide);have t:=W6 (V s m*C6 c l.2.2.1 m) 1000 m (by omega) (by omega) (by decide);have j:AY (V s m) (C6 c l.2.2.1 m) m=some (q8 (V s m*C6 c l.2.2.1 m) 1000 m):=by
  unfold AY;rw[t.1,vS,gP ⟨oo,rfl,trivial⟩,lE]
 obtain⟨r,E⟩:=DD h.del h.trs;obtain⟨u,k⟩:=IA b h.nlt;unfold N1;refine(gP ⟨g,trivial⟩).trans ?_;rw[lE,e,Ar h.pix h.net,vS,gP ⟨rfl,trivial⟩,lE];refine(if_pos (by rw[h.kind]; rfl)).trans ?_;rw[Iv h,vS,u,f.val,vS];refine(gP ⟨rfl,by decide,r,k,rfl,trivial⟩).trans ?_;rw[lE];show AZ c l m (V s m)=_;rw[AZ,Ov,vS,j,vS,gP ⟨rfl,rfl,trivial⟩,lE]
theorem RL(_:x5 b=true){T:List q5}(g:I8 T true=true){x:Int}(h:x=0∨x=1)(l:Int):∃V,Ox (T.getD x.toNat (a6 y269)) l V/\∀s m,V s m<=1000000:=by
 obtain⟨f,e⟩:=DD g h;have a:x.toNat<T.length:=by have:=f.1; have:=f.2; omega
 obtain⟨V,c⟩:=E0j e (RF g (L8 (d:=a6 y269) a)) l;refine⟨V,c,fun s m=>?_⟩;obtain⟨r,i,_,_,j⟩:=Kx e s l m;have:=c.val s m;rw[i] at this;cases this;exact j
theorem x0X(_:wf j3 b)(i:x5 b=true){q:Int}(Y:j6 q 0 (((lV b).length:Int)-1)=true){s:Int}(X:0<=s)(H:s<=1000000):∃r z,I1 (l6 b) q s 0=some r/\I1 (l6 b) q s 1=some z/\r<=z:=by
 obtain⟨y,W⟩:=WD Y;have e:ix q (l6 b).2.2.1.length:=y;have d:(lV b).getD q.toNat (a6 y138)∈lV b:=L8 W;rcases Iu i d with ⟨a,n,h⟩ | ⟨n,k,h⟩
 ·obtain⟨V,j,o⟩:=RL i h.slw h.trs ((A3 b n).getD 0 0);obtain⟨v,x⟩:=DD h.slw h.trs;obtain⟨g,f⟩:=IA b h.nlt;generalize hl:(lV b).getD q.toNat (a6 y138)=l at h j v x g f;have c:(l6 b).2.2.1.getD q.toNat (a6 y138)=l:=hl;have val:∀m,I1 (l6 b) q s m=some (V s m):=fun m=>by
   unfold I1;refine(gP ⟨e,trivial⟩).trans ?_;rw[lE,c,Ar h.pix h.net,vS,gP ⟨rfl,trivial⟩,lE];refine(if_pos (by rw[h.kind]; rfl)).trans ?_;rw[Iv h,vS,g,j.val,vS];refine(gP ⟨rfl,by decide,v,f,rfl,trivial⟩).trans ?_;rw[lE];have:=o s m;have:min (V s m) 1000000=V s m:=by omega
   rw[this]
  exact⟨_,_,val 0,val 1,j.two s⟩
 ·have F:=BQ i h.nlt;obtain⟨dl,E⟩:=F.delays;have u:=E (r9 b n k).toNat;obtain⟨g,f⟩:=IB b h.nlt;have Q:=Iq b n;have t:=h.klt;generalize hl:(lV b).getD q.toNat (a6 y138)=l at h;have c:(l6 b).2.2.1.getD q.toNat (a6 y138)=l:=hl;obtain⟨r,z,T,G,w3⟩:=t0v X H u.1 u.2;have val:∀m r,X6 s ((A9 b n).getD (r9 b n k).toNat 0) m=some r->I1 (l6 b) q s m=some (min r 1000000):=fun m r w=>by
   unfold I1;refine(gP ⟨e,trivial⟩).trans ?_;rw[lE,c,Ar h.pix h.net,vS,gP ⟨rfl,trivial⟩,lE];refine(if_neg (by rw[h.kind]; decide)).trans ?_;rw[g,h.idx];have P:((k:Int)).toNat=k:=rfl;rw[P,Ip t,w,vS];refine(gP ⟨f,oo,rfl,trivial⟩).trans ?_;rw[lE]
  exact⟨_,_,val 0 r T,val 1 z G,by omega⟩
end
theorem t0u{xs:List Int}(x:Int)(h:I7 xs=true):∃p:Nat,p<xs.length/\((A5 xs x=xs.getD p 0/\Q3 xs x=some ([((p:Int),1)],1)) ∨
  (p+1<xs.length/\xs.getD p 0<A5 xs x/\A5 xs x<xs.getD (p+1) 0/\Q3 xs x=some ([((p:Int),xs.getD (p+1) 0-A5 xs x),((p:Int)+1,A5 xs x-xs.getD p 0)],(xs.getD (p+1) 0-A5 xs x)+(A5 xs x-xs.getD p 0)))):=by
 obtain⟨u,t⟩:=Dw h;have g:((xs.length:Int)-1).toNat=xs.length-1:=by omega
 have n:xs.getD 0 0<=A5 xs x:=by
  have:xs.getD 0 0<=xs.getD (xs.length-1) 0:=by
   by_cases v:xs.length=1
   ·grind
   ·have:=DC h (by omega:0<xs.length-1) (by omega); omega
  unfold A5; omega
 have l:A5 xs x<=xs.getD (xs.length-1) 0:=by unfold A5; omega
 obtain⟨p,a,d,c⟩:=w0K h n l;by_cases f:xs.getD p 0=A5 xs x
 ·refine⟨p,a,.inl ⟨f.symm,?_⟩⟩;unfold Q3;rw[gP ⟨oo,oo,oo,trivial⟩,g];change lt (A5 xs x) _=_;rw[lE,Ot (by omega) a d c,gP ⟨rfl,trivial⟩,vS,lE,if_pos (by simpa using f)]
 ·have e:A5 xs x<xs.getD p 0:=by have:=c p (Nat.le_refl _) a; omega
  have j:0<p:=by
   apply Nat.pos_of_ne_zero;intro m; subst m; omega
  obtain⟨q,rfl⟩:∃q,p=q+1:=⟨p-1,by omega⟩;have b:=d q (by omega);have s:=Oo h a;have r:=Oo h (by omega:q<xs.length);have i:(((q+1:Nat):Int))-1=(q:Int):=by omega
  have k:(((q+1:Nat):Int)).toNat=q+1:=rfl;have o:((q:Int)).toNat=q:=rfl;refine⟨q,by omega,.inr ⟨a,b,e,?_⟩⟩;unfold Q3;rw[gP ⟨oo,oo,oo,trivial⟩,g];change lt (A5 xs x) _=_;rw[lE,Ot (by omega) a d c,gP ⟨rfl,trivial⟩,vS,lE,if_neg (by grind)];simp only[i,k,o];refine(gP ⟨oo,oo,oo,oo,oo,oo,oo,oo,oo,oo,trivial⟩).trans ?_;rw[lE]
  grind
theorem v0M{t:q5}(ht:D2 t=true)(hp:∀i,i<t.2.2.length->0<=t.2.2.getD i 0)(X:∀r q,r+1<t.1.length->q<t.2.1.length->K6 t r q<=K6 t (r+1) q)(l:Int){V:Int->Int->Int}(hV:Ox t l V){s o m:Int}(hm:m=0∨m=1)(hs:s<=o):V s m<=V o m:=by
 have u:I7 t.1=true/\I7 t.2.1=true:=by
  simp only[D2,ba] at ht;exact⟨ht.1.1.1,ht.1.1.2⟩
 obtain⟨q,c,d,M,hq,hM,h3,h4⟩:=Iz l u.2;have v:0<=c/\0<=d/\1<=c+d/\c+d<=100000/\(d≠0->q+1<t.2.1.length):=by
  rcases hM with ⟨rfl,rfl,_⟩ | ⟨_,_,_,_,_⟩ <;> omega
 have P:∀r,0<=o5 t r q 1 c d:=fun r=>RG hp (by decide) v.1 v.2.1;have aA:∀r,r+1<t.1.length->o5 t r q 1 c d<=o5 t (r+1) q 1 c d:=fun r hr=>by
  unfold o5;rw[Int.mul_one,Int.mul_one,Int.mul_one,Int.mul_one];have x1:=Int.mul_le_mul_of_nonneg_right (X r q hr hq) v.1;have x2:K6 t r (q+1)*d<=K6 t (r+1) (q+1)*d:=by
   by_cases hz:d=0
   ·rw[hz,Int.mul_zero,Int.mul_zero]; exact Int.le_refl _
   ·exact Int.mul_le_mul_of_nonneg_right (X r (q+1) hr (v.2.2.2.2 hz)) v.2.1
  omega
 have aF:∀k r,r+k<t.1.length->o5 t r q 1 c d<=o5 t (r+k) q 1 c d:=by
  intro k
  induction k with
  | zero=>intro r _; exact Int.le_refl _
  | succ k ih =>
    intro r hr;have:=ih r (by omega);have:=aA (r+k) (by omega);rw[show r+(k+1)=r+k+1 by omega];omega
 have f:∀i j,i<=j->j<t.1.length->o5 t i q 1 c d<=o5 t j q 1 c d:=fun i j g Q=>by
  have:=aF (j-i) i (by omega);rw[show i+(j-i)=j by omega] at this;exact this
 have G:∀{s:Int} {p:Nat},p<t.1.length->Q3 t.1 s=some ([((p:Int),1)],1)->V s m=q8 (o5 t p q 1 c d) (c+d) m:=fun {s p} y h2=>by
  have h1:=RJ ht hp (a:=1) (b:=0) y (.inl ⟨rfl,rfl,rfl⟩) h2 hq hM h4 m;rw[hV.val] at h1;rw[Option.some.inj h1,if_pos rfl,Int.add_zero,Int.add_zero,Int.one_mul]
 have H:∀{s:Int} {p:Nat} {a b:Int},p+1<t.1.length->0<a->0<b->a+b<=100000->Q3 t.1 s=some ([((p:Int),a),((p:Int)+1,b)],a+b)->V s m=q8 (a*o5 t p q 1 c d+b*o5 t (p+1) q 1 c d) ((a+b)*(c+d)) m:=fun {s p a b} y Y W aD h2=>by
  have h1:=RJ ht hp (a:=a) (b:=b) (show p<t.1.length by omega) (.inr ⟨y,Y,W,aD,rfl⟩) h2 hq hM h4 m;rw[hV.val] at h1;rw[Option.some.inj h1,if_neg (by omega),Ow t p q a,Ow t (p+1) q b]
 have c7:∀{a b:Int},1<=a+b->0 < (a+b)*(c+d):=fun h=>Int.mul_pos (by omega) (by omega);have x:∀{a b:Int} (p:Nat),0<=a->0<=b->0<=a*o5 t p q 1 c d+b*o5 t (p+1) q 1 c d:=fun p Y W=>by
  have:=Int.mul_nonneg Y (P p);have:=Int.mul_nonneg W (P (p+1));omega
 -- below a line, above a line
 have up:∀{a b:Int} (p i:Nat),0<a->0<b->p+1<=i->i<t.1.length->q8 (a*o5 t p q 1 c d+b*o5 t (p+1) q 1 c d) ((a+b)*(c+d)) m<=q8 (o5 t i q 1 c d) (c+d) m:=fun {a b} p i Y W F hi=>by
  refine Kz (x p (by omega) (by omega)) (c7 (by omega)) (P i) (by omega) ?_ hm;have x1:=Int.mul_le_mul_of_nonneg_left (f p i (by omega) hi) (show 0<=a by omega);have x2:=Int.mul_le_mul_of_nonneg_left (f (p+1) i F hi) (show 0<=b by omega);have x3:a*o5 t p q 1 c d+b*o5 t (p+1) q 1 c d<=(a+b)*o5 t i q 1 c d:=by rw[Int.add_mul]; omega
  have:=Int.mul_le_mul_of_nonneg_right x3 (show 0<=c+d by omega);rw[<- Int.mul_assoc,Int.mul_comm (o5 t i q 1 c d)];exact this
 have dn:∀{a b:Int} (p i:Nat),0<a->0<b->i<=p->p+1<t.1.length->q8 (o5 t i q 1 c d) (c+d) m<=q8 (a*o5 t p q 1 c d+b*o5 t (p+1) q 1 c d) ((a+b)*(c+d)) m:=fun {a b} p i Y W F hi=>by
  refine Kz (P i) (by omega) (x p (by omega) (by omega)) (c7 (by omega)) ?_ hm;have x1:=Int.mul_le_mul_of_nonneg_left (f i p F (by omega)) (show 0<=a by omega);have x2:=Int.mul_le_mul_of_nonneg_left (f i (p+1) (by omega) hi) (show 0<=b by omega);have x3:(a+b)*o5 t i q 1 c d<=a*o5 t p q 1 c d+b*o5 t (p+1) q 1 c d:=by rw[Int.add_mul]; omega
  have:=Int.mul_le_mul_of_nonneg_right x3 (show 0<=c+d by omega);rw[<- Int.mul_assoc,Int.mul_comm (o5 t i q 1 c d)];exact this
 have aG:∀i j,i<=j->j<t.1.length->q8 (o5 t i q 1 c d) (c+d) m<=q8 (o5 t j q 1 c d) (c+d) m:=fun i j g Q=>Kz (P i) (by omega) (P j) (by omega) (Int.mul_le_mul_of_nonneg_right (f i j g Q) (show 0<=c+d by omega)) hm
 have hx:A5 t.1 s<=A5 t.1 o:=by unfold A5; omega
 have aB:=fun {i j:Nat} (g:i<j) (Q:j<t.1.length)=>DC u.1 g Q;have z:∀{i j:Nat},i<=j->j<t.1.length->t.1.getD i 0<=t.1.getD j 0:=fun {i j} g Q=>by
  rcases Nat.eq_or_lt_of_le g with e | e
  ·rw[e]; exact Int.le_refl _
  ·have:=aB e Q; omega
 obtain⟨p,p1,p2⟩:=t0u s u.1;obtain⟨n,w,aC⟩:=t0u o u.1;have T:=fun {i:Nat} (hi:i<t.1.length)=>Oo u.1 hi;rcases p2 with ⟨e1,w1⟩ | ⟨b1,b2,b3,w1⟩
 ·rw[G p1 w1];rcases aC with ⟨e2,E⟩ | ⟨c1,c2,c3,E⟩
  ·rw[G w E];refine aG p n ?_ w;rcases Nat.lt_or_ge n p with h | h
   ·have:=aB h p1; omega
   ·exact h
  ·have:=T (show n<t.1.length by omega);have:=T c1;rw[H c1 (by omega) (by omega) (by omega) E];refine dn n p (by omega) (by omega) ?_ c1;rcases Nat.lt_or_ge n p with h | h
   ·have:=z (show n+1<=p by omega) p1; omega
   ·exact h
 ·have:=T (show p<t.1.length by omega);have:=T b1;rw[H b1 (by omega) (by omega) (by omega) w1];rcases aC with ⟨e2,E⟩ | ⟨c1,c2,c3,E⟩
  ·rw[G w E];refine up p n (by omega) (by omega) ?_ w;rcases Nat.lt_or_ge p n with h | h
   ·exact h
   ·have:=z h (show p<t.1.length by omega); omega
  ·have:=T (show n<t.1.length by omega);have:=T c1;rw[H c1 (by omega) (by omega) (by omega) E];rcases Nat.lt_trichotomy p n with h | h | h
   ·refine Int.le_trans (up p (p+1) (by omega) (by omega) (Nat.le_refl _) b1) ?_;exact dn n (p+1) (by omega) (by omega) (by omega) c1
   ·subst h;refine Kz (x p (by omega) (by omega)) (c7 (by omega)) (x p (by omega) (by omega)) (c7 (by omega)) ?_ hm;have e1:(t.1.getD (p+1) 0-A5 t.1 s)+(A5 t.1 s-t.1.getD p 0)=(t.1.getD (p+1) 0-A5 t.1 o)+(A5 t.1 o-t.1.getD p 0):=by omega
    rw[e1];refine Int.mul_le_mul_of_nonneg_right ?_ (by have:=c7 (a:=t.1.getD (p+1) 0-A5 t.1 o) (b:=A5 t.1 o-t.1.getD p 0) (by omega); omega);obtain⟨k,hk⟩:∃k,A5 t.1 o=A5 t.1 s+k:=⟨A5 t.1 o-A5 t.1 s,by omega⟩;have x1:=Int.mul_le_mul_of_nonneg_left (aA p b1) (show 0<=k by omega);have x2:(t.1.getD (p+1) 0-A5 t.1 o)*o5 t p q 1 c d=(t.1.getD (p+1) 0-A5 t.1 s)*o5 t p q 1 c d-k*o5 t p q 1 c d:=by rw[<- Int.sub_mul]; congr 1; omega
    have x3:(A5 t.1 o-t.1.getD p 0)*o5 t (p+1) q 1 c d=(A5 t.1 s-t.1.getD p 0)*o5 t (p+1) q 1 c d+k*o5 t (p+1) q 1 c d:=by rw[<- Int.add_mul]; congr 1; omega
    omega
   ·have:=z (show n+1<=p by omega) (show p<t.1.length by omega); omega
theorem Wu{a b:Int}(e:0<=a)(d:0<=b)(h:a*a<b*b):a<b:=by
 rcases Int.lt_or_le a b with c | c
 ·exact c
 ·have:=Int.mul_le_mul c c d (by omega);omega
theorem t0x{n R:Int}(h:BS n R):n<=(500*P8 n 1 R)*(500*P8 n 1 R):=by
 obtain⟨c,f,g⟩:=h;have b:∀v,R<500*v∨(R<=500*v/\R*R=n)->n<=(500*v)*(500*v):=fun v a=>by
  rcases a with a | ⟨a,e⟩
  ·have:=Int.mul_le_mul (show R+1<=500*v by omega) (show R+1<=500*v by omega) (by omega) (by omega);omega
  ·have:=Int.mul_le_mul a a c (by omega);omega
 refine b _ ?_;unfold P8;split
 ·grind
 ·rename_i d;simp only[beq_self_eq_true,Bool.true_and,dq] at d;rw[BT c (by decide)];omega
theorem t0w{n R w:Int}(h:BS n R)(i:0<=w)(g:n<=(500*w)*(500*w)):P8 n 1 R<=w:=by
 obtain⟨b,e,f⟩:=h;unfold P8;split
 ·rename_i a;simp only[beq_self_eq_true,Bool.true_and,dq] at a;have:=Wu b (show 0<=500*w by omega) (by omega)
  grind
 ·rename_i a;simp only[beq_self_eq_true,Bool.true_and,dq] at a;have d:R<=500*w:=by
   rcases Int.lt_or_le (500*w) R with c | c
   ·have:=Int.mul_lt_mul' (show 500*w<=R by omega) c (by omega) (by omega);omega
   ·exact c
  grind[BT]
theorem l0r{n R:Int}(a:0<=R):0<=P8 n 1 R:=by
 grind[P8,Int.tdiv_eq_ediv_of_nonneg,BT]
theorem o0E{n b R R' m:Int}(h:BS n R)(a:BS b R')(e:n<=b)(d:m=0∨m=1):P8 n m R<=P8 b m R':=by
 rcases d with rfl | rfl
 ·have c:R<=R':=by
   have:=Wu h.1 (show 0<=R'+1 by have:=a.1; omega) (by have:=h.2.1; have:=a.2.2; omega);omega
  unfold P8;rw[if_neg (by simp),if_neg (by simp),Fu h.1 (by decide),Fu a.1 (by decide)];omega
 ·exact t0w h (l0r a.1) (by have:=t0x a; omega)
theorem r0U{s f d m:Int}(a:0<=s)(g:s<=f)(j:f<=1000000)(k:0<=d)(Q:d<=301000000)(t:m=0∨m=1):∃r z,X6 s d m=some r/\X6 f d m=some z/\r<=z:=by
 have b:∀s,0<=s->s<=1000000->∃R,BS (250000*(s*s)+d*d) R/\X6 s d m=some (P8 (250000*(s*s)+d*d) m R):=fun s a j=>by
  obtain⟨q,P,F⟩:=RC s d;have g:=L9 (A:=1000000) (B:=1000000) (x:=s) (y:=s) (by omega) (by omega) (by omega) (by omega) (by decide);have H:=L9 (A:=301000000) (B:=301000000) (x:=d) (y:=d) (by omega) (by omega) (by omega) (by omega) (by decide);have v:0<=s*s:=Int.mul_nonneg a a;have w:0<=d*d:=Int.mul_nonneg k k;obtain⟨R,c,E,l⟩:=Ww (n:=250000*(s*s)+d*d) (by omega) (by omega);have h:=c.1;have o:=L9 (A:=3000000000) (B:=3000000000) (x:=R) (y:=R) (by omega) (by omega) (by omega) (by omega) (by decide);refine⟨R,c,?_⟩;unfold X6;rw[q,l,vS,gP ⟨oo,oo,oo,oo,oo,trivial⟩,gP ⟨rfl,trivial⟩,lE,gP ⟨(fun _=>oo),trivial⟩];unfold P8;split
  ·have:R.tdiv 500=R / 500:=Int.tdiv_eq_ediv_of_nonneg h;exact gP ⟨by decide,oo,trivial⟩
  ·rw[(W6 R 500 m (by omega) (by omega) (by decide)).1,vS,gP ⟨rfl,trivial⟩,lE]
 obtain⟨R,c,e⟩:=b s a (by omega);obtain⟨G,i,u⟩:=b f (by omega) j;refine⟨_,_,e,u,o0E c i ?_ t⟩;have:=Int.mul_le_mul g g a (by omega);omega
variable {b:j0}
theorem J0j(r:x5 b=true){c:p8}(t:J2 c=true){q:Int}(P:j6 q 0 (((lV b).length:Int)-1)=true) :
  ∃d:Int->Int->Int,(∀s m,N1 (l6 b) c q s m=some (d s m))/\∀s,d s 0<=d s 1:=by
 obtain⟨Q,x2⟩:=WD P;have i:(lV b).getD q.toNat (a6 y138)∈lV b:=L8 x2;have u:=fun k=>Fw t k 0;have e:∀k,C6 c k 0<=C6 c k 1:=fun k=>by
  have h:=t;unfold J2 at h;simp only[ba,dq] at h;unfold C6;have e0:((0:Int)==0)=true:=rfl;have e1:((1:Int)==0)=false:=rfl;rw[e0,e1];split <;> simp only[if_true,Bool.false_eq_true,if_false] <;> omega
 rcases Iu r i with ⟨a,n,h⟩ | ⟨n,k,h⟩
 ·obtain⟨t1,H⟩:=DD h.del h.trs;obtain⟨G,F,_⟩:=Gv H;obtain⟨V,j,z⟩:=RL r h.del h.trs ((A3 b n).getD 0 0);have g:=fun s m=>r0y r P h j z t s m;generalize hlk:(lV b).getD q.toNat (a6 y138)=l at h j g t1 H G F;refine⟨fun s m=>q8 (V s m*C6 c l.2.2.1 m) 1000 m,g,fun s=>?_⟩;refine WH (Int.mul_nonneg (j.pos _ _) (u _).1) ?_;exact Int.le_trans (Int.mul_le_mul_of_nonneg_right (j.two s) (u _).1) (v0t (j.pos _ _) (e _))
 ·have W:=BQ r h.nlt;obtain⟨dl,T⟩:=W.delays;have g:=T (r9 b n k).toNat;obtain⟨G,F⟩:=IB b h.nlt;have Y:=Iq b n;have E:=h.klt;have X:((k:Int)).toNat=k:=rfl;have hv:=fun m=>GF (a:=(A9 b n).getD (r9 b n k).toNat 0) (b:=1000) (K:=301000) m (by decide) (by omega) (by omega);have f:=fun m=>Ky (a:=(A9 b n).getD (r9 b n k).toNat 0) (b:=1000) m (by omega) (by decide);generalize hlk:(lV b).getD q.toNat (a6 y138)=l at h;have w:(l6 b).2.2.1.getD q.toNat (a6 y138)=l:=hlk;have o:∀s m,N1 (l6 b) c q s m=some (q8 (q8 ((A9 b n).getD (r9 b n k).toNat 0) 1000 m*C6 c l.2.2.1 m) 1000 m):=fun s m=>by
   have p0:=f m;have p1:=hv m;have hf:=Fw t l.2.2.1 m;have hp:=L9 (A:=1000000) (B:=5000) (x:=q8 ((A9 b n).getD (r9 b n k).toNat 0) 1000 m) (y:=C6 c l.2.2.1 m) (by omega) (by omega) (by omega) (by omega) (by decide);have g:=W6 (q8 ((A9 b n).getD (r9 b n k).toNat 0) 1000 m*C6 c l.2.2.1 m) 1000 m (by omega) (by omega) (by decide);have v:AY (q8 ((A9 b n).getD (r9 b n k).toNat 0) 1000 m) (C6 c l.2.2.1 m) m=some (q8 (q8 ((A9 b n).getD (r9 b n k).toNat 0) 1000 m*C6 c l.2.2.1 m) 1000 m):=by
    unfold AY;rw[g.1,vS,gP ⟨oo,rfl,trivial⟩,lE]
   unfold N1;refine(gP ⟨Q,trivial⟩).trans ?_;rw[lE,w,Ar h.pix h.net,vS,gP ⟨rfl,trivial⟩,lE];refine(if_neg (by rw[h.kind]; decide)).trans ?_;rw[G,h.idx,X,Ip E,(W6 _ 1000 m (by omega) (by omega) (by decide)).1,vS];refine(gP ⟨F,oo,rfl,trivial⟩).trans ?_;rw[lE];show AZ c l m _=_;rw[AZ,Ov,vS,v,vS,gP ⟨rfl,rfl,trivial⟩,lE]
  refine⟨fun s m=>q8 (q8 ((A9 b n).getD (r9 b n k).toNat 0) 1000 m*C6 c l.2.2.1 m) 1000 m,o,fun s=>?_⟩;refine WH (Int.mul_nonneg (f 0) (u _).1) ?_;exact Int.le_trans (Int.mul_le_mul_of_nonneg_right (WH g.1 (Int.le_refl _)) (u _).1) (v0t (f 1) (e _))
theorem x0Y{b:j0}(H:wf j3 b)(w:x5 b=true){q:Int}(t:j6 q 0 (((lV b).length:Int)-1)=true){s m:Int}(Q:0<=s)(E:s<=1000000)(z:m=0∨m=1){r:Int}(g:I1 (l6 b) q s m=some r):0<=r:=by
 have t:=B3.1 t;have f:ix q (l6 b).2.2.1.length:=⟨t.1,by show q < ((lV b).length:Int); omega⟩;generalize hl:(lV b).getD q.toNat (a6 y138)=l;have e:(l6 b).2.2.1.getD q.toNat (a6 y138)=l:=hl;have d:l∈lV b:=by rw[<- hl]; exact L8 (by omega)
 rcases Iu w d with ⟨a,n,h⟩ | ⟨n,k,h⟩
 ·obtain⟨o,x⟩:=DD h.slw h.trs;obtain⟨i,y,l2,l3,W⟩:=Kx x s ((A3 b n).getD 0 0) m;obtain⟨v,u⟩:=IA b h.nlt;have j:(l.2.1.tmod 2).toNat<a.2.2.2.2.2.length:=by have:=o.1; have:=o.2; omega
  have X:=r0e x (RF h.slw (L8 j)) s ((A3 b n).getD 0 0) m i y;have c:I1 (l6 b) q s m=some (min i 1000000):=by
   unfold I1;refine(gP ⟨f,trivial⟩).trans ?_;rw[lE,e,Ar h.pix h.net,vS,gP ⟨rfl,trivial⟩,lE];refine(if_pos (by rw[h.kind]; rfl)).trans ?_;rw[Iv h,vS,v,y,vS];refine(gP ⟨rfl,by decide,o,u,rfl,trivial⟩).trans ?_;rw[lE]
  rw[c] at g;cases g;omega
 ·obtain⟨i,P,V,Y⟩:=I0B H w h.nlt h.klt Q E z;obtain⟨v,u⟩:=IB b h.nlt;have G:=Iq b n;have T:=h.klt;have c:I1 (l6 b) q s m=some (min i 1000000):=by
   unfold I1;refine(gP ⟨f,trivial⟩).trans ?_;rw[lE,e,Ar h.pix h.net,vS,gP ⟨rfl,trivial⟩,lE];refine(if_neg (by rw[h.kind]; decide)).trans ?_;rw[v,h.idx];have F:((k:Int)).toNat=k:=rfl;rw[F,P,vS];refine(gP ⟨u,oo,rfl,trivial⟩).trans ?_;rw[lE]
  rw[c] at g;cases g;omega
section
variable {b:j0}
end
end Go.Proofs.YtechodbafnmddaaGreatDoor
end
section
namespace Go.Proofs.Xd
open Go.Proofs.Xl
theorem r0p{b:Type}{l:List b}{p q:b->Bool}(h:∀a∈l,p a=q a):l.find? p=l.find? q:=by
 induction l with
 | nil=>rfl
 | cons a r c =>
   grind
theorem o0c{b:Type}(l:List b)(p q r:b->Bool)(h:∀a∈l,(p a).toNat=(q a).toNat+(r a).toNat):l.countP p=l.countP q+l.countP r:=by
 induction l with
 | nil=>rfl
 | cons a t c =>
   grind
theorem s0L{b:Type}(l:List b)(p q:b->Bool)(h:∀a∈l,p a=q a):l.countP p=l.countP q:=by
 induction l with
 | nil=>rfl
 | cons a t c =>
   grind
section
variable (M N:Nat) (fr to:Nat->Nat) (lv:Nat->Bool)
def CP(out:List Nat)(v:Nat):Nat:=(List.range M).countP fun i=>lv i&&to i==v&&!out.contains (fr i)
def IC(o:List Int)(i:Nat):List Int:=o.set (to i) (o.getD (to i) 0-1)
def GG(o:List Int)(i:Nat):List Int:=o.set (to i) (o.getD (to i) 0+1)
def KA:List Int:=((List.range M).filter lv).foldl (GG to) (List.replicate N 0)
def Oy(o:List Int)(v:Nat):List Int:=((List.range M).filter fun i=>lv i&&fr i==v).foldl (IC to) (o.set v (-1))
def DE(out:List Nat):List Int:=out.foldl (Oy M fr to lv) (KA M N to lv)
def W7(out:List Nat):Option Nat:=(List.range N).find? fun v=>!out.contains v&&CP M fr to lv out v==0
def ID:Nat->List Nat->Option (List Nat)
 | 0,out=>some out
 | k+1,out=>match W7 M N fr to lv out with
   | none=>none
   | some v=>ID k (out++[v])
theorem n0o(a:List Nat)(v:Nat):DE M N fr to lv (a++[v])=Oy M fr to lv (DE M N fr to lv a) v:=by
 grind[DE]
theorem Oz{o:List Int}{i v:Nat}(x:Int)(hi:i<o.length):(o.set i x).getD v 0=if v=i then x else o.getD v 0:=by
 grind
theorem E0I(a:List Nat)(o:List Int)(h:∀i∈a,to i<o.length)(v:Nat):(a.foldl (IC to) o).length=o.length/\(a.foldl (IC to) o).getD v 0=o.getD v 0-(a.countP fun i=>to i==v):=by
 induction a generalizing o with
 | nil=>simp
 | cons i r b =>
   grind[IC,Oz]
theorem E0t(a:List Nat)(o:List Int)(h:∀i∈a,to i<o.length)(v:Nat):(a.foldl (GG to) o).length=o.length/\(a.foldl (GG to) o).getD v 0=o.getD v 0+(a.countP fun i=>to i==v):=by
 induction a generalizing o with
 | nil=>simp
 | cons i r b =>
   grind[GG,Oz]
variable {M N fr to lv}
theorem l0k(p:Nat->Bool):(List.range M).countP p<=M:=by
 grind[List.countP_le_length,List.range,List.length_range]
theorem v0h(e:∀i,i<M->to i<N)(v:Nat):(KA M N to lv).length=N/\(KA M N to lv).getD v 0=CP M fr to lv [] v:=by
 have a:∀i∈(List.range M).filter lv,to i < (List.replicate N (0:Int)).length:=fun i hi=>by
  grind
 obtain⟨d,b⟩:=E0t to ((List.range M).filter lv) (List.replicate N 0) a v;refine⟨by grind[KA,List.length_replicate],?_⟩;rw[KA,b,List.countP_filter];have c:(List.replicate N (0:Int)).getD v 0=0:=by
  rw[gq,List.getElem?_replicate];split <;> rfl
 rw[c,Int.zero_add];congr 1;refine s0L _ _ _ (fun i _=>?_)
 grind
structure OA(M N:Nat)(fr to:Nat->Nat)(lv:Nat->Bool)(out:List Nat)(o:List Int):Prop where
 len:o.length=N
 un:∀v,v<N->v ∉ out->o.getD v 0=CP M fr to lv out v
 li:∀v,v<N->v∈out->o.getD v 0<0
 lo:∀v,v<N -> -(1+(out.length:Int)*M)<=o.getD v 0
 hi:∀v,v<N->o.getD v 0<=M
theorem z0r{a:List Nat}{v:Nat}(b:v ∉ a)(w:Nat):CP M fr to lv a w=((List.range M).countP fun i=>to i==w&&(lv i&&fr i==v))+CP M fr to lv (a++[v]) w:=by
 unfold CP;refine o0c _ _ _ _ (fun i _=>?_)
 grind
theorem C0j(b:∀i,i<M->to i<N):OA M N fr to lv [] (KA M N to lv):=by
 have h:=fun v=>v0h (fr:=fr) (lv:=lv) b v;refine⟨(h 0).1,fun v _ _=>(h v).2,fun v _ a=>(nomatch a),fun v _=>?_,fun v _=>?_⟩
 ·grind
 grind[CP,l0k]
theorem v0j(m:∀i,i<M->to i<N){a:List Nat}{o:List Int}(h:OA M N fr to lv a o){v:Nat}(r:v<N)(n:v ∉ a):OA M N fr to lv (a++[v]) (Oy M fr to lv o v):=by
 have j:(o.set v (-1)).length=N:=by rw[List.length_set,h.len]
 have g:=fun w=>E0I to ((List.range M).filter fun i=>lv i&&fr i==v) (o.set v (-1)) (fun i hi=>by
  rw[List.mem_filter,List.mem_range] at hi;rw[j];exact m i hi.1) w
 have d:∀w,(Oy M fr to lv o v).getD w 0=(if w=v then -1 else o.getD w 0)-((List.range M).countP fun i=>to i==w&&(lv i&&fr i==v)):=fun w=>by
  grind[Oy,Oz,List.countP_filter]
 have k:∀w,(((List.range M).countP fun i=>to i==w&&(lv i&&fr i==v):Nat):Int)<=M:=fun w=>by
  have:=l0k (M:=M) (fun i=>to i==w&&(lv i&&fr i==v));omega
 have c:((a++[v]).length:Int)*M=(a.length:Int)*M+M:=by
  rw[List.length_append,List.length_singleton,Int.natCast_add,Int.add_mul];simp
 have s:(0:Int)<=(a.length:Int)*M:=Int.mul_nonneg (Int.natCast_nonneg _) (Int.natCast_nonneg _);refine⟨(g 0).1.trans j,fun w b f=>?_,fun w b f=>?_,fun w b=>?_,fun w b=>?_⟩
 ·rw[d,if_neg (fun e=>f (by simp[e])),h.un w b (fun e=>f (by simp[e])),z0r n w];omega
 ·rw[d];by_cases e:w=v
  ·omega
  ·rw[if_neg e];have:=h.li w b (by
    grind)
   omega
 ·rw[d,c];have l:=k w;have q:=h.lo w b;omega
 ·rw[d];have l:=k w;have q:=h.hi w b;omega
theorem v0k{a:List Nat}{o:List Int}(h:OA M N fr to lv a o):(List.range o.length).find? (fun v=>(0:Int)==o.getD v 0)=W7 M N fr to lv a:=by
 unfold W7;rw[h.len];refine r0p (fun v b=>?_);have b:=List.mem_range.1 b;by_cases c:v∈a
 ·have e:=h.li v b c;have d:a.contains v=true:=List.contains_iff_mem.2 c;have f:((0:Int)==o.getD v 0)=false:=beq_eq_false_iff_ne.2 (by omega);rw[d,f]; rfl
 ·have e:=h.un v b c;have d:a.contains v=false:=by rw[<- Bool.not_eq_true,List.contains_iff_mem]; exact c
  rw[e,d,Bool.not_false,Bool.true_and,Bool.eq_iff_iff];simp only[beq_iff_eq];omega
theorem RM{a:List Nat}{v:Nat}(h:W7 M N fr to lv a=some v):v<N/\v ∉ a:=by
 grind[W7]
def W8(N:Nat)(out:List Nat):List Bool:=out.foldl (fun l v=>l.set v true) (List.replicate N false)
theorem x0Z{o:List Bool}{i v:Nat}(x:Bool)(hi:i<o.length):(o.set i x).getD v false=if v=i then x else o.getD v false:=by
 grind
theorem v0P(a:List Nat)(v:Nat):W8 N (a++[v])=(W8 N a).set v true:=by
 grind[W8]
theorem u0P(a:List Nat)(o:List Bool)(h:∀v∈a,v<o.length)(w:Nat):(a.foldl (fun l v=>l.set v true) o).length=o.length/\(a.foldl (fun l v=>l.set v true) o).getD w false=(a.contains w||o.getD w false):=by
 induction a generalizing o with
 | nil=>simp
 | cons v r b =>
   grind
theorem n0B{a:List Nat}(h:∀v∈a,v<N)(w:Nat):(W8 N a).length=N/\(W8 N a).getD w false=a.contains w:=by
 obtain⟨b,c⟩:=u0P a (List.replicate N false) (fun v d=>by grind) w
 grind[List.replicate,W8]
def GH(fr to:Nat->Nat)(lv:Nat->Bool)(out:List Nat)(k:Nat)(w:List Bool):List Bool:=if(lv k&&!out.contains (fr k))=true then w.set (to k) true else w
theorem p0P(c:∀i,i<M->to i<N)(a:List Nat)(v:Nat):∀m,m<=M->(fN (GH fr to lv a) m (List.replicate N false)).length=N/\(fN (GH fr to lv a) m (List.replicate N false)).getD v false=(List.range m).any fun i=>lv i&&to i==v&&!a.contains (fr i):=by
 intro m
 induction m with
 | zero =>
   intro _;refine⟨List.length_replicate,?_⟩;show(List.replicate N false).getD v false=false
   grind
 | succ m b =>
   grind[GH,fN,List.replicate]
theorem t0D(b:∀i,i<M->to i<N){a:List Nat}(c:∀v∈a,v<N):(List.range N).find? (fun v=>!((W8 N a).getD v false||(fN (GH fr to lv a) M (List.replicate N false)).getD v false))=W7 M N fr to lv a:=by
 unfold W7;refine r0p (fun v _=>?_);rw[(n0B c v).2,(p0P b a v M (Nat.le_refl _)).2,Bool.not_or]
 grind[CP]
end
inductive Rch(M:Nat)(fr to:Nat->Nat)(lv:Nat->Bool)(s:Nat):Nat->Prop
 | refl:Rch M fr to lv s s
 | step {i:Nat}:Rch M fr to lv s (fr i)->i<M->lv i=true->Rch M fr to lv s (to i)
theorem Rch.trans{M:Nat}{fr d:Nat->Nat}{lv:Nat->Bool}{a b c:Nat}(h:Rch M fr d lv a b)(k:Rch M fr d lv b c):Rch M fr d lv a c:=by
 induction k with
 | refl=>exact h
 | step _ hi f e=>exact e.step hi f
theorem Rch.one{M:Nat}{fr a:Nat->Nat}{lv:Nat->Bool}{i:Nat}(hi:i<M)(b:lv i=true):Rch M fr a lv (fr i) (a i):=Rch.refl.step hi b
theorem Rch.head{M:Nat}{fr a:Nat->Nat}{lv:Nat->Bool}{i c:Nat}(hi:i<M)(b:lv i=true)(k:Rch M fr a lv (a i) c):Rch M fr a lv (fr i) c:=(Rch.one hi b).trans k
theorem Rch.back{M:Nat}{fr c:Nat->Nat}{lv:Nat->Bool}{a b:Nat}(h:Rch M fr c lv a b):Rch M c fr lv b a:=by
 induction h with
 | refl=>exact .refl
 | step _ hi e d=>grind[Rch.head]
theorem Rch.lt{M N:Nat}{fr c:Nat->Nat}{lv:Nat->Bool}(e:∀i,i<M->c i<N){a b:Nat}(h:Rch M fr c lv a b)(d:a<N):b<N:=by
 cases h with
 | refl=>exact d
 | step _ hi _=>grind
section
variable (M N:Nat) (fr to:Nat->Nat) (lv:Nat->Bool)
def RB(s:Nat)(L:List Bool):Prop:=L.length=N/\∀v,v<N->(L.getD v false=true↔Rch M fr to lv s v)
structure RI(s:Nat)(r:List Bool):Prop where
 len:r.length=N
 src:r.getD s false=true
 snd:∀v,r.getD v false=true->Rch M fr to lv s v
theorem RI.done{M N:Nat}{fr a:Nat->Nat}{lv:Nat->Bool}{s:Nat}{r:List Bool}(h:RI M N fr a lv s r)(e:∀i,i<M->lv i=true->r.getD (fr i) false=true->r.getD (a i) false=true):RB M N fr a lv s r :=
 ⟨h.len,fun v b=>⟨h.snd v,fun c=>by
   clear b
   induction c with
   | refl=>exact h.src
   | step _ hi d f=>grind⟩⟩
def U0N(r:List Bool):Nat:=(List.range M).countP fun i=>lv i&&!r.getD (fr i) false
structure QI(s:Nat)(q:List Int×List Bool):Prop where
 len:q.2.length=N
 mem:∀x∈q.1,0<=x/\x.toNat<N/\Rch M fr to lv s x.toNat
 snd:∀v,q.2.getD v false=true->Rch M fr to lv s v
 src:q.2.getD s false=true∨(s:Int)∈q.1
 cls:∀i,i<M->lv i=true->q.2.getD (fr i) false=true->q.2.getD (to i) false=true∨(to i:Int)∈q.1
 h9:q.1.length+U0N M fr lv q.2<=M+1
end
abbrev Sp:=Int×Int
abbrev u5:=Sp×Sp
def Y9(a b:Sp):Sp:=(min a.1 b.1,max a.2 b.2)
def Z0(a b:Sp):Sp:=(a.1+b.1,a.2+b.2)
def GI(o:Option u5)(x:u5):Option u5:=match o with
 | none=>some x
 | some y=>some (Y9 y.1 x.1,Y9 y.2 x.2)
section
variable (M:Nat) (fr to:Nat->Nat) (lv:Nat->Bool) (sp:Nat->Sp->Sp×Sp) (src:Nat->Option u5)
def DG(T:Nat->Option u5)(v k:Nat)(o:Option u5):Option u5:=if(lv k&&to k==v)=true then(match T (fr k) with
 | none=>o
 | some x=>GI o (Z0 x.1 (sp k x.2).1,(sp k x.2).2)) else o
def GJ(T:Nat->Option u5)(v:Nat):Option u5:=fN (DG fr to lv sp T v) M (src v)
def L5(T:Nat->Option u5)(v:Nat)(x:Option u5):Nat->Option u5:=fun w=>if w=v then x else T w
variable (ok:u5->Bool)
def GK(x:Option u5):Bool:=match x with
 | none=>true
 | some y=>ok y
def GL:List Nat->(Nat->Option u5)->Option (Nat->Option u5)
 | [],T=>some T
 | v :: r,T=>if GK ok (GJ M fr to lv sp src T v)=true then GL r (L5 T v (GJ M fr to lv sp src T v)) else none
end
theorem n0S{a:Type}{f g:Nat->a->a}:∀(n:Nat) (s:a),(∀i s,i<n->f i s=g i s)->fN f n s=fN g n s
 | 0,_,_=>rfl
 | n+1,s,h=>by
   show f n (fN f n s)=g n (fN g n s);rw[n0S n s (fun i s hi=>h i s (by omega)),h n _ (by omega)]
theorem n0R{a:Type}{f:Nat->a->a}(I:a->Prop):∀(n:Nat) (s:a),I s->(∀i s,i<n->I s->I (f i s))->I (fN f n s)
 | 0,_,h,_=>h
 | n+1,s,h,hs=>hs n _ (by omega) (n0R I n s h fun i s hi=>hs i s (by omega))
section
variable {M:Nat} {fr to:Nat->Nat} {lv:Nat->Bool} {sp:Nat->Sp->Sp×Sp} {src:Nat->Option u5} {ok:u5->Bool}
theorem p0d{T T':Nat->Option u5}{v:Nat}(h:∀k,k<M->lv k=true->to k=v->T (fr k)=T' (fr k)):GJ M fr to lv sp src T v=GJ M fr to lv sp src T' v:=by
 unfold GJ;refine n0S M _ fun k s a=>?_
 grind[DG]
def OB(M:Nat)(fr to:Nat->Nat)(lv:Nat->Bool):List Nat->List Nat->Prop
 | _,[]=>True
 | d,v :: r=>(∀k,k<M->lv k=true->to k=v->fr k∈d)/\OB M fr to lv (d++[v]) r
theorem u0V{v:Nat}{r:List Nat}{T:Nat->Option u5}:GL M fr to lv sp src ok (v :: r) T=if GK ok (GJ M fr to lv sp src T v)=true then GL M fr to lv sp src ok r (L5 T v (GJ M fr to lv sp src T v)) else none:=rfl
def O0f(a b:Sp):Prop:=b.1<=a.1/\a.2<=b.2
def insO(x y:Option u5):Prop:=∀a,x=some a->∃c,y=some c/\O0f a.1 c.1/\O0f a.2 c.2
theorem insO.refl(x:Option u5):insO x x:=fun a h=>⟨a,h,⟨Int.le_refl _,Int.le_refl _⟩,⟨Int.le_refl _,Int.le_refl _⟩⟩
theorem insO.none(y:Option u5):insO none y:=fun _ h=>by cases h
end
end Go.Proofs.Xd
end
section
namespace Go.Proofs.YtechodbafnmddaaGreatDoor
open Go Go.Proofs Go.Proofs.Sv Go.Proofs.Xv Go.Proofs.Xl Go.Proofs.Xd
structure SpanV(b:j0)(c:p8)(q:Int)(dv lv:Int->Int->Int):Prop where
 del:∀s m,N1 (l6 b) c q s m=some (dv s m)
 d0:∀s m,0<=dv s m/\dv s m<=5000000
 d2:∀s,dv s 0<=dv s 1
 slw:∀s m,0<=s->s<=1000000->m=0∨m=1->I1 (l6 b) q s m=some (lv s m)/\0<=lv s m/\lv s m<=1000000
 l2:∀s,0<=s->s<=1000000->lv s 0<=lv s 1
section
variable {b:j0}
theorem I0o(u:wf j3 b)(_:h9 j3 b<=1048576)(a:x5 b=true){c:p8}(_:wf q4 c)(i:J2 c=true){q:Int}(f:j6 q 0 (((lV b).length:Int)-1)=true):∃dv lv,SpanV b c q dv lv:=by
 obtain⟨B,o⟩:=E0H a f;obtain⟨d,t,k⟩:=J0j a i f;have e:∀s m,d s m=q8 (B s m*C6 c ((lV b).getD q.toNat (a6 y138)).2.2.1 m) 1000 m:=fun s m=>by
  have l:=t s m;rw[o.val c i] at l
  grind
 refine⟨d,fun s m=>vl (I1 (l6 b) q s m),⟨t,fun s m=>?_,k,fun s m j g h=>?_,fun s j g=>?_⟩⟩
 ·rw[e];have F:=o.bd s m;have E:=Fw i ((lV b).getD q.toNat (a6 y138)).2.2.1 m;have w:=Int.mul_nonneg F.1 E.1;have l:=L9 (A:=1000000) (B:=5000) (x:=B s m) (y:=C6 c ((lV b).getD q.toNat (a6 y138)).2.2.1 m) (by omega) (by omega) (by omega) (by omega) (by decide);exact⟨Ky m w (by decide),(GF (K:=5000000) m (by decide) (by omega) (by omega)).2⟩
 ·obtain⟨r,n,_,v⟩:=Ou u a f j g h;have z:=x0Y u a f j g h n;show _=some (vl (I1 (l6 b) q s m))/\0<=vl (I1 (l6 b) q s m)/\vl (I1 (l6 b) q s m)<=1000000;rw[n];exact⟨rfl,z,v⟩
 grind[x0X,vl,I1,l6]
def GM(dv lv:Int->Int->Int)(sp:Sp):Sp×Sp:=((min (dv sp.1 0) (dv sp.2 0),max (dv sp.1 1) (dv sp.2 1)),min (lv sp.1 0) (lv sp.2 0),max (lv sp.1 1) (lv sp.2 1))
theorem SpanV.spans{c:p8}{q:Int}{a lv:Int->Int->Int}(h:SpanV b c q a lv)(j:j6 q 0 (((lV b).length:Int)-1)=true){sp:Sp}(e:D7 sp=true):Cv (l6 b) c q sp=some (GM a lv sp):=by
 unfold D7 at e;rw[ba,ba] at e;have d:=B3.1 e.1.2;have f:=B3.1 e.2;have g:=B3.1 j;have i:ix q (l6 b).2.2.1.length:=⟨g.1,by show q < ((lV b).length:Int); omega⟩;unfold Cv;rw[h.del,h.del,h.del,h.del];refine(gP ⟨rfl,rfl,rfl,rfl,trivial⟩).trans ?_;rw[lE];refine(gP ⟨i,trivial⟩).trans ?_;rw[lE];refine(if_neg ?_).trans ?_
 ·show ¬(decide ((0:Int)<0)&&_)=true;simp
 ·show HE (l6 b) q sp (min (a sp.1 0) (a sp.2 0),max (a sp.1 1) (a sp.2 1))=_;rw[HE,(h.slw sp.1 0 d.1 d.2 (.inl rfl)).1,(h.slw sp.2 0 f.1 f.2 (.inl rfl)).1,(h.slw sp.1 1 d.1 d.2 (.inr rfl)).1,(h.slw sp.2 1 f.1 f.2 (.inr rfl)).1];rfl
theorem SpanV.ok{c:p8}{q:Int}{d lv:Int->Int->Int}(h:SpanV b c q d lv){sp:Sp}(e:D7 sp=true):0<=(GM d lv sp).1.1/\(GM d lv sp).1.1<=(GM d lv sp).1.2/\(GM d lv sp).1.2<=5000000/\D7 (GM d lv sp).2=true:=by
 unfold D7 at e;rw[ba,ba] at e;have a:=B3.1 e.1.2;have f:=B3.1 e.2;have r:=h.d0 sp.1 0;have g:=h.d0 sp.2 0;have s:=h.d0 sp.1 1;have j:=h.d0 sp.2 1;have m:=h.d2 sp.1;have k:=(h.slw sp.1 0 a.1 a.2 (.inl rfl)).2;have n:=(h.slw sp.2 0 f.1 f.2 (.inl rfl)).2;have i:=(h.slw sp.1 1 a.1 a.2 (.inr rfl)).2;have l:=(h.slw sp.2 1 f.1 f.2 (.inr rfl)).2;have o:=h.l2 sp.1 a.1 a.2;unfold GM;refine⟨by grind,by grind,by grind,?_⟩;unfold D7 H5;simp only[ba,dq]
 grind[B3]
def OC(t:q5):Prop:=∀r q,r+1<t.1.length->q<t.2.1.length->K6 t r q<=K6 t (r+1) q
def O0b(b:j0):Prop:=∀ce∈b.1,∀ar∈ce.2.2.2.1,(∀t∈ar.2.2.2.2.1,OC t)/\∀t∈ar.2.2.2.2.2,OC t
theorem z0v{l:u0}{a:G5}{n:Nat}(i:O0b b)(h:Oq b l a n):(∀t∈a.2.2.2.2.1,OC t)/\∀t∈a.2.2.2.2.2,OC t:=by
 have f:=h.cix;have g:=h.aix;have e:(j9 b.2.1 (x7 b.2.1 (l.2.1.tdiv 2).toNat).1.toNat).2.1.toNat<b.1.length:=by have:=f.1; have:=f.2; omega
 have c:l.2.2.2.toNat < (b.1.getD (j9 b.2.1 (x7 b.2.1 (l.2.1.tdiv 2).toNat).1.toNat).2.1.toNat (a6 y153)).2.2.2.1.length:=by have:=g.1; have:=g.2; omega
 have:=i _ (L8 (d:=a6 y153) e) _ (L8 (d:=a6 y158) c);rw[h.arc] at this;omega
theorem v0N{T:List q5}(f:I8 T true=true)(h:∀t∈T,OC t){x:Int}(k:x=0∨x=1)(l:Int){s e m:Int}(i:m=0∨m=1)(g:s<=e){V:Int->Int->Int}(j:Ox (T.getD x.toNat (a6 y269)) l V):V s m<=V e m:=by
 obtain⟨c,n⟩:=DD f k;have b:x.toNat<T.length:=by have:=c.1; have:=c.2; omega
 have a:=L8 (d:=a6 y269) b;exact v0M n (RF f a) (h _ a) l j i g
theorem SpanV.mono(_:wf j3 b)(E:x5 b=true)(hM:O0b b){c:p8}(T:J2 c=true){q:Int}(hq:j6 q 0 (((lV b).length:Int)-1)=true){H lv:Int->Int->Int}(h:SpanV b c q H lv):(∀s s' m,s<=s'->m=0∨m=1->H s m<=H s' m)/\∀s s' m,0<=s->s<=s'->s'<=1000000->m=0∨m=1->lv s m<=lv s' m:=by
 obtain⟨x1,x2⟩:=WD hq;have o:ix q (l6 b).2.2.1.length:=x1;have j:(lV b).getD q.toNat (a6 y138)∈lV b:=L8 x2;rcases Iu E j with ⟨a,n,e⟩ | ⟨n,k,e⟩
 ·obtain⟨m1,m2⟩:=z0v hM e;obtain⟨V,P,aH⟩:=RL E e.del e.trs ((A3 b n).getD 0 0);obtain⟨W,hW,Y⟩:=RL E e.slw e.trs ((A3 b n).getD 0 0);have ed:∀s m,H s m=q8 (V s m*C6 c ((lV b).getD q.toNat (a6 y138)).2.2.1 m) 1000 m:=fun s m=>by
   have h1:=h.del s m
   grind[r0y,Option.some.inj]
  refine⟨fun s s' m i f=>?_,fun s s' m G i F f=>?_⟩
  ·rw[ed,ed];refine w0n m (Int.mul_nonneg (P.pos _ _) (Fw T _ _).1) ?_;exact Int.mul_le_mul_of_nonneg_right (v0N e.del m1 e.trs _ f i P) (Fw T _ _).1
  ·have Q:=v0N e.slw m2 e.trs _ f i hW;obtain⟨t1,t2⟩:=DD e.slw e.trs;obtain⟨v,u⟩:=IA b e.nlt;have aA:=(h.slw s m G (by omega) f).1;have aC:=(h.slw s' m (by omega) F f).1;generalize hll:(lV b).getD q.toNat (a6 y138)=l at e P hW t1 t2 v u Q;have g:(l6 b).2.2.1.getD q.toNat (a6 y138)=l:=hll;have val:∀s,I1 (l6 b) q s m=some (W s m):=fun s=>by
    unfold I1;refine(gP ⟨o,trivial⟩).trans ?_;rw[lE,g,Ar e.pix e.net,vS,gP ⟨rfl,trivial⟩,lE];refine(if_pos (by rw[e.kind]; rfl)).trans ?_;rw[Iv e,vS,v,hW.val,vS];refine(gP ⟨rfl,by decide,t1,u,rfl,trivial⟩).trans ?_;rw[lE];have:=Y s m;have:min (W s m) 1000000=W s m:=by omega
    rw[this]
   grind
 ·have no:=BQ E e.nlt;obtain⟨dl,db⟩:=no.delays;have hd:=db (r9 b n k).toNat;obtain⟨v,u⟩:=IB b e.nlt;have aG:=Iq b n;have t:=e.klt;have e4:((k:Int)).toNat=k:=rfl;generalize hll:(lV b).getD q.toNat (a6 y138)=l at e;have g:(l6 b).2.2.1.getD q.toNat (a6 y138)=l:=hll;refine⟨fun s s' m i f=>?_,fun s s' m G i F f=>?_⟩
  ·have h1:=h.del s m;have h2:=h.del s' m;have hv:=GF (a:=(A9 b n).getD (r9 b n k).toNat 0) (b:=1000) (K:=301000) m (by decide) (by omega) (by omega);have aF:=Ky (a:=(A9 b n).getD (r9 b n k).toNat 0) (b:=1000) m (by omega) (by decide);have aD:∀s,N1 (l6 b) c q s m=some (q8 (q8 ((A9 b n).getD (r9 b n k).toNat 0) 1000 m*C6 c l.2.2.1 m) 1000 m):=fun s=>by
    have hf:=Fw T l.2.2.1 m;have hp:=L9 (A:=1000000) (B:=5000) (x:=q8 ((A9 b n).getD (r9 b n k).toNat 0) 1000 m) (y:=C6 c l.2.2.1 m) (by omega) (by omega) (by omega) (by omega) (by decide);have aB:=W6 (q8 ((A9 b n).getD (r9 b n k).toNat 0) 1000 m*C6 c l.2.2.1 m) 1000 m (by omega) (by omega) (by decide);have X:AY (q8 ((A9 b n).getD (r9 b n k).toNat 0) 1000 m) (C6 c l.2.2.1 m) m=some (q8 (q8 ((A9 b n).getD (r9 b n k).toNat 0) 1000 m*C6 c l.2.2.1 m) 1000 m):=by
     unfold AY;rw[aB.1,vS,gP ⟨oo,rfl,trivial⟩,lE]
    unfold N1;refine(gP ⟨x1,trivial⟩).trans ?_;rw[lE,g,Ar e.pix e.net,vS,gP ⟨rfl,trivial⟩,lE];refine(if_neg (by rw[e.kind]; decide)).trans ?_;rw[v,e.idx,e4,Ip t,(W6 _ 1000 m (by omega) (by omega) (by decide)).1,vS];refine(gP ⟨u,oo,rfl,trivial⟩).trans ?_;rw[lE];show AZ c l m _=_;rw[AZ,Ov,vS,X,vS,gP ⟨rfl,rfl,trivial⟩,lE]
   grind
  ·obtain⟨r,z,w1,w2,w3⟩:=r0U (d:=(A9 b n).getD (r9 b n k).toNat 0) (m:=m) G i F hd.1 hd.2 f;have val:∀s r,X6 s ((A9 b n).getD (r9 b n k).toNat 0) m=some r->I1 (l6 b) q s m=some (min r 1000000):=fun s r w=>by
    unfold I1;refine(gP ⟨o,trivial⟩).trans ?_;rw[lE,g,Ar e.pix e.net,vS,gP ⟨rfl,trivial⟩,lE];refine(if_neg (by rw[e.kind]; decide)).trans ?_;rw[v,e.idx];rw[e4,Ip t,w,vS];refine(gP ⟨u,oo,rfl,trivial⟩).trans ?_;rw[lE]
   have aA:=(h.slw s m G (by omega) f).1;have aC:=(h.slw s' m (by omega) F f).1
   grind
end
end Go.Proofs.YtechodbafnmddaaGreatDoor
end
section
namespace Go.Proofs.Xd
open Go.Proofs.Xl
abbrev KB:=List Bool×List Sp×List Sp
def x6(N:Nat)(T:Nat->Option u5):KB:=((List.range N).map fun v=>(T v).isSome,(List.range N).map fun v=>((T v).getD ((0,0),(0,0))).1,(List.range N).map fun v=>((T v).getD ((0,0),(0,0))).2)
def CQ(t:KB):Nat->Option u5:=fun v=>if t.1.getD v false=true then some (t.2.1.getD v (0,0),t.2.2.getD v (0,0)) else none
theorem KC{a:Type}(f:Nat->a)(N:Nat)(d:a){v:Nat}(h:v<N):((List.range N).map f).getD v d=f v:=by
 grind
theorem E0e{a:Type}(f g:Nat->a)(N v:Nat)(h:∀w,w<N->w≠v->f w=g w):((List.range N).map f).set v (g v)=(List.range N).map g:=by
 refine List.ext_getElem? fun i=>?_
 grind
theorem w0q{N:Nat}{T:Nat->Option u5}{v:Nat}(h:v<N):CQ (x6 N T) v=T v:=by
 unfold CQ x6;simp only;rw[KC _ N _ h,KC _ N _ h,KC _ N _ h];cases T v <;> rfl
theorem z0o{N:Nat}{T:Nat->Option u5}{v:Nat}(h:T v=none):x6 N (L5 T v none)=x6 N T:=by
 have:L5 T v none=T:=by
  funext w;unfold L5;split
  ·rename_i e; rw[e,h]
  ·rfl
 rw[this]
theorem OD{N:Nat}{T:Nat->Option u5}:(x6 N T).1.length=N/\(x6 N T).2.1.length=N/\(x6 N T).2.2.length=N:=by
 grind[x6]
section
variable (M:Nat) (fr to:Nat->Nat) (lv:Nat->Bool) (sp:Nat->Sp->Sp×Sp) (src:Nat->Option u5) (T:Nat->Option u5) (md:Int)
end
section
variable {M:Nat} {fr to:Nat->Nat} {lv:Nat->Bool} {sp:Nat->Sp->Sp×Sp} {src:Nat->Option u5} {T:Nat->Option u5} {md:Int}
end
abbrev S6:=Int×Sp×Sp
def IE(l:List S6):Prop:=l.Pairwise fun x y=>x.1<y.1
def O6(l:List S6)(v:Nat):Option u5:=(l.find? fun s=>s.1==(v:Int)).map fun s=>s.2
theorem WI{l:List S6}(h:IE l){s:S6}(f:s∈l){v:Nat}(m:s.1=(v:Int)):O6 l v=some s.2:=by
 unfold O6;cases e:l.find? fun s=>s.1==(v:Int) with
 | none =>
   have:=List.find?_eq_none.1 e s f;simp[m] at this
 | some x =>
   have d:=List.find?_some e;have n:=List.mem_of_find?_eq_some e;have d:x.1=(v:Int):=by simpa using d
   obtain⟨i,hi,b⟩:=List.getElem_of_mem n;obtain⟨j,g,a⟩:=List.getElem_of_mem f;have k:=List.pairwise_iff_getElem.1 h;rcases Nat.lt_trichotomy i j with c | c | c
   ·have:=k i j hi g c;rw[b,a] at this;omega
   ·subst c;rw[b] at a;rw[a];rfl
   ·have:=k j i g hi c;rw[b,a] at this;omega
theorem x0R{l:List S6}{v:Nat}(h:∀s∈l,s.1≠(v:Int)):O6 l v=none:=by
 unfold O6;rw[List.find?_eq_none.2 fun s a=>by simpa using h s a];rfl
theorem q0t{l:List S6}{v:Nat}{x:u5}(h:O6 l v=some x):∃s∈l,s.1=(v:Int)/\s.2=x:=by
 unfold O6 at h;cases e:l.find? fun s=>s.1==(v:Int) with
 | none=>rw[e] at h; cases h
 | some s =>
   rw[e] at h;cases h;exact⟨s,List.mem_of_find?_eq_some e,by simpa using List.find?_some e,rfl⟩
def Fx(l:List S6)(d:S6)(v:Nat)(i:Nat)(o:Option u5):Option u5:=if((l.getD i d).1==(v:Int))=true then some (l.getD i d).2 else o
theorem x0S{l:List S6}(h:IE l)(d:S6)(v:Nat):fN (Fx l d v) l.length none=O6 l v:=by
 have i:∀n,n<=l.length->fN (Fx l d v) n none=O6 (l.take n) v:=by
  intro n
  induction n with
  | zero=>intro _; rfl
  | succ n q =>
    intro r;have b:n<l.length:=by omega
    have k:l.getD n d=l[n]:=by rw[gq,List.getElem?_eq_getElem b]; rfl
    have hi:IE (l.take (n+1)):=h.sublist (List.take_sublist _ _);have g:l.take (n+1)=l.take n++[l[n]]:=by rw[List.take_add_one,List.getElem?_eq_getElem b]; rfl
    show Fx l d v n (fN (Fx l d v) n none)=_;rw[q (by omega)];unfold Fx;rw[k];by_cases c:(l[n].1==(v:Int))=true
    ·rw[if_pos c];exact(WI hi (by rw[g]; exact List.mem_append_right _ (List.mem_singleton.2 rfl)) (by simpa using c)).symm
    ·rw[if_neg c];cases e:O6 (l.take n) v with
     | none =>
       refine(x0R fun s a f=>?_).symm;rw[g] at a;rcases List.mem_append.1 a with a | a
       ·have:=WI (h.sublist (List.take_sublist n l)) a f;rw[e] at this;cases this
       ·rw[List.mem_singleton.1 a] at f;exact c (by simpa using f)
     | some x =>
       obtain⟨s,j,m,o⟩:=q0t e;have:=WI hi (by rw[g]; exact List.mem_append_left _ j) m;rw[this,o]
 have:=i l.length (Nat.le_refl _)
 rwa [List.take_of_length_le (Nat.le_refl _)] at this
end Go.Proofs.Xd
end
section
namespace Go.Proofs.YtechodbafnmddaaGreatDoor
open Go Go.Proofs Go.Proofs.Sv Go.Proofs.Xv Go.Proofs.Xl Go.Proofs.Xd
theorem w0m(pl:Nat->C0)(t:Int):∀m,0<m->W2 pl t m<m
 | 1,_=>by
   have e:W2 pl t 1=if((pl 0).2.2.1==t&&(pl 0).2.2.2)=true then((0:Nat):Int) else 0:=rfl
   rw[e];split <;> simp
 | m+2,_=>by
   have e:W2 pl t (m+2)=if((pl (m+1)).2.2.1==t&&(pl (m+1)).2.2.2)=true then((m+1:Nat):Int) else W2 pl t (m+1):=rfl
   have:=w0m pl t (m+1) (by omega);omega
theorem s0B{b:j0}(m:x5 b=true){l:u0}(h:l∈lV b):0<=l.1/\l.1<2*((p7 b.2.1).length:Int)/\0<=l.2.1/\l.2.1<2*((p7 b.2.1).length:Int):=by
 obtain⟨r,f,_⟩:=Y7 m;have x:=W3 r;rcases v0Q h with ⟨i,j,t,hi,o,g,rfl⟩ | ⟨i,k,t,hi,hk,g,rfl⟩
 ·obtain⟨G,s,F⟩:=GB x hi;obtain⟨c1,P,E,u⟩:=GC s;obtain⟨Y,T,a3,z⟩:=u j o;obtain⟨A,w⟩:∃A:Nat,(j7 (v8 b i) j).2.1=(A:Int):=⟨(j7 (v8 b i) j).2.1.toNat,by omega⟩;obtain⟨B,y⟩:∃B:Nat,(j7 (v8 b i) j).2.2.1=(B:Int):=⟨(j7 (v8 b i) j).2.2.1.toNat,by omega⟩;have a:A < (j9 b.2.1 i).2.2.length:=by omega
  have e:B < (j9 b.2.1 i).2.2.length:=by omega
  have X:A0 (j9 b.2.1) i+A < (p7 b.2.1).length:=by
   have:=On (j9 b.2.1) hi a;unfold p7;rw[Kv]; omega
  have H:A0 (j9 b.2.1) i+B < (p7 b.2.1).length:=by
   have:=On (j9 b.2.1) hi e;unfold p7;rw[Kv]; omega
  have W:=(Ro _ _).2 _ (L8 (d:=(0,0)) g);have v:(Ir (A0 (j9 b.2.1) i:Int) (j7 (v8 b i) j) j t).1=2*((A0 (j9 b.2.1) i:Int)+(A:Int))+((K3 (j7 (v8 b i) j).1 (j7 (v8 b i) j).2.2.2.1).getD t (0,0)).1:=by
   rw[<- w]; rfl
  have n:(Ir (A0 (j9 b.2.1) i:Int) (j7 (v8 b i) j) j t).2.1=2*((A0 (j9 b.2.1) i:Int)+(B:Int))+((K3 (j7 (v8 b i) j).1 (j7 (v8 b i) j).2.2.2.1).getD t (0,0)).2:=by
   rw[<- y]; rfl
  omega
 ·obtain⟨q,c,Q,h3,_⟩:=Rn (x7 b.2.1) i (p7 b.2.1).length _ (L8 (d:=0) hk);have c:(x9 b.2.1 i).getD k 0=(q:Int):=c;have d1:=(VV (x7 b.2.1) i (p7 b.2.1).length).1;have V:=w0m (x7 b.2.1) i (p7 b.2.1).length (by omega);have v:(Fs (L4 b i) ((x9 b.2.1 i).getD k 0) k t).1=2*W2 (x7 b.2.1) i (p7 b.2.1).length+(t:Int):=rfl;have n:(Fs (L4 b i) ((x9 b.2.1 i).getD k 0) k t).2.1=2*(q:Int)+(t:Int):=by
   rw[<- c]; rfl
  omega
section
variable (b:j0)
def j1:Nat:=2*(p7 b.2.1).length
def p6(i:Nat):Nat:=((lV b).getD i (a6 y138)).1.toNat
def r7(i:Nat):Nat:=((lV b).getD i (a6 y138)).2.1.toNat
theorem CR(a:x5 b=true){i:Nat}(hi:i < (lV b).length):((lV b).getD i (a6 y138)).1=(p6 b i:Int)/\((lV b).getD i (a6 y138)).2.1=(r7 b i:Int)/\p6 b i<j1 b/\r7 b i<j1 b:=by
 obtain⟨c,e,f,g⟩:=s0B a (L8 (d:=a6 y138) hi)
 grind[p6,r7,j1]
theorem KD(a:x5 b=true):j1 b<=1000000:=by
 have c:=(W3 (Y7 a).1).len
 grind[j1]
theorem WJ(a:x5 b=true):T8 (l6 b)=some (j1 b:Int):=by
 have c:=(W3 (Y7 a).1).len;have e:∀s:List C3,Ng s=some (s.length:Int):=fun _=>rfl;unfold T8;rw[e,vS,gP ⟨rfl,⟨by omega,by show 2*((p7 b.2.1).length:Int)<=_; omega⟩,trivial⟩,lE];unfold j1;rw[Int.natCast_mul];rfl
theorem r60(d:wf j3 b)(c:x5 b=true):M0 b=some (j1 b:Int):=by
 have a:=W3 (Y7 c).1;have e:=a.len;unfold M0;rw[Gz b.2.1 d.2.1 a.fac.ni14 a.fac.np8 a.pin,vS,gP ⟨rfl,⟨by omega,by grind⟩,trivial⟩,lE]
 grind[j1,Int.natCast_mul]
end
def I3(l:List Int)(x:Int):Bool:=(List.range l.length).any fun j=>l.getD j 0==x
theorem r93(l:List Int)(x:Int)(c:l.length<=9223372036854775807):Jx l x=some (I3 l x):=by
 have a:=K4 c (fun j=>l.getD j 0==x) (some true) (e:=some false) (F:=Zw l x) (fun g i hi=>by
  have b:((i:Int)).toNat=i:=rfl;refine(if_pos (decide_eq_true (by omega))).trans ((gP ⟨oo,trivial⟩).trans ?_);rw[b];by_cases h:(l.getD i 0==x)=true
  ·simp_all
  ·rw[if_neg h,if_neg h];exact gP ⟨oo,trivial⟩) (fun g=>if_neg (by simp))
 refine a.trans ?_
 grind[I3,List.range]
def H0(M:Nat)(br:List Int):List Bool:=fN (Bk fun k=>!I3 br (k:Int)) M []
theorem r44(a:List j2)(br:List Int)(c:a.length<=1048576)(e:br.length<=1048576):T5 a br=some (H0 a.length br):=by
 refine(lF (n:=a.length) (by omega) (fun i (s:List Bool)=>((i:Int),s)) (Bk fun k=>!I3 br (k:Int)) (fun i s=>s.length=i) (J:=fun s=>some s) (F:=Zy br a) (fun g i s hi b=>?_) (fun i s _ b=>by show(s++[_]).length=_; grind) (fun g s _=>if_neg (by simp)) [] rfl).trans rfl;have d:((i:Int)).toNat=i:=rfl;refine(if_pos (decide_eq_true (by omega))).trans ?_;rw[r93 br _ (by omega),vS];refine(gP ⟨rfl,⟨by grind,by grind⟩,trivial⟩).trans ?_;exact gP ⟨oo,trivial⟩
def BU(M:Nat)(br:List Int):Bool:=br.all (j6 · 0 ((M:Int)-1))&&Fl br
theorem E0s:Dq []=some true:=by
 unfold Dq;refine E0f (fun n a=>?_);obtain⟨m,rfl⟩:∃m,n=m+1:=⟨n-1,by omega⟩;rfl
theorem L0r(xs:List Int)(h:xs.length<=9223372036854775807):Dq xs=some (Fl xs):=by
 cases xs with
 | nil=>exact E0s
 | cons x r=>grind[Wa]
theorem P0G{b:j0}(a:x5 b=true)(br:List Int)(h:br.length<=1048576):Fe (l6 b) br=some (BU (lV b).length br):=by
 have c:=AL a;have e:HS (l6 b).2.2.1=some ((lV b).length:Int):=rfl;unfold Fe;rw[e,vS,Im br 0 _ (by omega),vS,L0r br (by omega),vS,gP ⟨rfl,oo,rfl,(fun _=>rfl),trivial⟩];rfl
theorem M0L(M:Nat)(br:List Int)(l:M<=1048576)(h:br.length<=1048576):PG br (M:Int)=some (BU M br):=by
 have b:=K4 (n:=br.length) (by omega) (fun i=>!j6 (br.getD i 0) 0 ((M:Int)-1)||(decide (0<i)&&decide (br.getD i 0<=br.getD (i-1) 0))) (some false) (e:=some true) (F:=ZQ br (M:Int)) (fun g i hi=>by
  have c:((i:Int)).toNat=i:=rfl;have f:((i:Int)-1).toNat=i-1:=by omega
  refine(if_pos (decide_eq_true (by omega))).trans ?_;rw[U8,vS,c,f];refine(gP ⟨oo,oo,rfl,(fun a=>oo),(fun a=>⟨by have:=of_decide_eq_true a.1; omega,by omega⟩),(fun _=>oo),trivial⟩).trans ?_;have j:decide ((0:Int) < (i:Int))=decide (0<i):=by
   rw[decide_eq_decide]; omega
  rw[j];by_cases a:(!j6 (br.getD i 0) 0 ((M:Int)-1)||(decide (0<i)&&decide (br.getD i 0<=br.getD (i-1) 0)))=true
  ·rw[if_pos a,if_pos a]
  ·rw[if_neg a,if_neg a];exact gP ⟨oo,trivial⟩) (fun g=>if_neg (by simp))
 refine b.trans ?_;have e:BU M br=!((List.range br.length).any fun i=>!j6 (br.getD i 0) 0 ((M:Int)-1)||(decide (0<i)&&decide (br.getD i 0<=br.getD (i-1) 0))):=by
  unfold BU Fl;rw[Bool.eq_iff_iff];simp only[ba,Bool.not_eq_true',<- Bool.not_eq_true,List.any_eq_true,List.all_eq_true,List.mem_range,Bool.or_eq_true];constructor
  ·grind
  ·intro k;refine⟨fun x d=>?_,fun⟨i,hi,a⟩=>k ⟨i,hi,.inr a⟩⟩;obtain⟨i,hi,rfl⟩:=List.getElem_of_mem d
   simp_all
 grind
theorem WL{b:Type}(g:b->Nat->b)(l:List Nat)(s:b):fN (fun i s=>g s (l.getD i 0)) l.length s=l.foldl g s:=by
 have a:∀n,n<=l.length->fN (fun i s=>g s (l.getD i 0)) n s=(l.take n).foldl g s:=by
  intro n
  induction n with
  | zero=>intro _; rfl
  | succ n c =>
    intro d;have e:l.take (n+1)=l.take n++[l.getD n 0]:=by
     rw[List.take_add_one,gq,List.getElem?_eq_getElem (by omega)];rfl
    rw[e,List.foldl_append,<- c (by omega)];rfl
 have:=a l.length (Nat.le_refl _)
 rwa [List.take_length] at this
theorem D0x(M:Nat):∀m,m<=M->(fN (fun i (s:List Bool)=>s.set i true) m (List.replicate M false)).length=M/\∀k,k<m->(fN (fun i (s:List Bool)=>s.set i true) m (List.replicate M false)).getD k false=true:=by
 intro m
 induction m with
 | zero=>exact fun _=>⟨List.length_replicate,fun k a=>by omega⟩
 | succ m b =>
   intro d;obtain⟨c,e⟩:=b (by omega);refine⟨by show(List.set _ _ _).length=M; grind,fun k a=>?_⟩;show(List.set _ _ _).getD k false=true;rw[x0Z _ (by omega)]
   grind
theorem E0S(br:List Int)(s:List Bool):∀m,(∀j,j<m->(br.getD j 0).toNat<s.length)->(fN (fun i (s:List Bool)=>s.set (br.getD i 0).toNat false) m s).length=s.length/\∀k,(fN (fun i (s:List Bool)=>s.set (br.getD i 0).toNat false) m s).getD k false=(s.getD k false&&!(List.range m).any fun j=>(br.getD j 0).toNat==k):=by
 intro m
 induction m with
 | zero=>exact fun _=>⟨rfl,fun k=>by show s.getD k false=_; simp⟩
 | succ m b =>
   intro a;obtain⟨c,e⟩:=b (fun j d=>a j (by omega));refine⟨by show(List.set _ _ _).length=_; grind,fun k=>?_⟩;show(List.set _ _ _).getD k false=_
   grind
def R3(p:Nat->Bool)(M:Nat):List Int:=((List.range M).filter p).map fun i:Nat=>(i:Int)
theorem RN(p:Nat->Bool):∀m,fN (fun i (s:List Int)=>if p i=true then s++[(i:Int)] else s) m []=R3 p m
 | 0=>rfl
 | m+1=>by
   show(if p m=true then fN _ m []++[(m:Int)] else fN _ m [])=_;rw[RN p m];unfold R3;rw[List.range_succ,List.filter_append,List.map_append]
   grind
theorem WN(p:Nat->Bool)(M:Nat):(R3 p M).length<=M/\(R3 p M).length=((List.range M).filter p).length:=by
 unfold R3
 grind
theorem WQ(p:Nat->Bool)(M i:Nat):(R3 p M).getD i 0=((((List.range M).filter p).getD i 0:Nat):Int):=by
 grind[R3,List.range]
theorem OE{p:Nat->Bool}{M i:Nat}(h:i < ((List.range M).filter p).length):((List.range M).filter p).getD i 0<M:=by
 grind[L8]
def As(o:Option (List Nat)):List Int×Bool:=match o with
 | none=>([],false)
 | some l=>(l.map (fun v:Nat=>(v:Int)),true)
section
variable {b:j0}
theorem P0E(q:x5 b=true){br:List Int}(a:BU (lV b).length br=true)(w:br.length<=1048576):HV (l6 b) br=some (l6 b,H0 (lV b).length br):=by
 have v:=AL q;have a:=a;unfold BU at a;rw[ba] at a;have d:∀j,j<br.length->0<=br.getD j 0/\br.getD j 0 < ((lV b).length:Int):=fun j m=>by
  grind[B3,Km]
 obtain⟨f,u⟩:=D0x (lV b).length (lV b).length (Nat.le_refl _);obtain⟨o,t⟩:=E0S br (fN (fun i (s:List Bool)=>s.set i true) (lV b).length (List.replicate (lV b).length false)) br.length (fun j m=>by
  have:=d j m;omega)
 have l:fN (fun i (s:List Bool)=>s.set (br.getD i 0).toNat false) br.length (fN (fun i (s:List Bool)=>s.set i true) (lV b).length (List.replicate (lV b).length false))=H0 (lV b).length br:=by
  refine E0o false (by rw[o,f]; exact(Ij _ _).symm) (fun k c=>?_);have c:k < (lV b).length:=by rw[o,f] at c; exact c
  rw[t,u k c,Bool.true_and];refine Eq.trans ?_ (Od (fun k=>!I3 br (k:Int)) false _ k c).symm;congr 1;unfold I3;rw[Bool.eq_iff_iff,List.any_eq_true,List.any_eq_true];constructor
  ·grind
  ·grind
 unfold HV;have r:((l6 b).2.2.1.length:Int)=((lV b).length:Int):=rfl;rw[r,Int.toNat_natCast];refine(gP ⟨⟨by omega,rfl,by omega,by omega⟩,trivial⟩).trans ?_;rw[lE,List.length_replicate];refine(lF (n:=(lV b).length) (by omega) (fun i (s:List Bool)=>((i:Int),s)) (fun i s=>s.set i true) (fun _ s=>s.length=(lV b).length) (J:=fun s=>NJ br (l6 b) s) (F:=B0I br (l6 b) ((lV b).length:Int)) (fun g i s hi e=>?_) (fun i s _ e=>by grind) (fun g s _=>if_neg (by simp)) (List.replicate (lV b).length false) List.length_replicate).trans ?_
 ·have h:((i:Int)).toNat=i:=rfl;refine(if_pos (decide_eq_true (by omega))).trans ?_;refine(gP ⟨oo,by omega,trivial⟩).trans ?_;exact gP ⟨oo,trivial⟩
 ·show NJ br (l6 b) _=_;rw[NJ];refine(lF (n:=br.length) (by omega) (fun i (s:List Bool)=>((i:Int),s)) (fun i s=>s.set (br.getD i 0).toNat false) (fun _ s=>s.length=(lV b).length) (J:=fun s=>some (l6 b,s)) (F:=B0H br (l6 b)) (fun g i s hi e=>?_) (fun i s _ e=>by grind) (fun g s _=>if_neg (by simp)) _ f).trans ?_
  ·have h:((i:Int)).toNat=i:=rfl;have:=d i hi;refine(if_pos (decide_eq_true (by omega))).trans ?_;refine(gP ⟨oo,trivial⟩).trans ?_;rw[h];refine(gP ⟨oo,by omega,trivial⟩).trans ?_;exact gP ⟨oo,trivial⟩
  grind
theorem L0p(d:x5 b=true){lv:List Bool}(e:lv.length=(lV b).length):QP (l6 b,lv)=some (R3 (fun i=>lv.getD i false) (lV b).length):=by
 have f:=AL d;refine(lF (n:=(lV b).length) (by omega) (fun i (s:List Int)=>(s,(i:Int))) (fun i s=>if lv.getD i false=true then s++[(i:Int)] else s) (fun i s=>s.length<=i) (J:=fun s=>some s) (F:=k0E (l6 b,lv)) (fun g i s hi c=>?_) (fun i s _ c=>?_) (fun g s _=>if_neg (by simp[l6])) [] (Nat.le_refl _)).trans (congrArg some (RN _ _))
 ·have j:((i:Int)).toNat=i:=rfl;have a:ix (i:Int) (l6 b).2.2.1.length:=⟨by omega,by show(i:Int) < ((lV b).length:Int); omega⟩;refine(if_pos (decide_eq_true a.2)).trans ((gP ⟨a,trivial⟩).trans ?_);rw[lE];refine(gP ⟨⟨by omega,by grind⟩,(fun _=>rfl),trivial⟩).trans ?_;show(if(lv.getD i false&&true)=true then _ else _)=_;rw[Bool.and_true];by_cases h:lv.getD i false=true
  ·rw[if_pos h,if_pos h];refine(gP ⟨⟨by grind,by grind⟩,trivial⟩).trans ?_;exact gP ⟨oo,trivial⟩
  ·rw[if_neg h,if_neg h];exact gP ⟨oo,trivial⟩
 grind
theorem L0q(c:x5 b=true){lv:List Bool}(k:lv.length=(lV b).length)(a:Nat):QN (l6 b,lv) (a:Int)=some (R3 (fun i=>lv.getD i false&&p6 b i==a) (lV b).length):=by
 have l:=AL c;refine(lF (n:=(lV b).length) (by omega) (fun i (s:List Int)=>(s,(i:Int))) (fun i s=>if(lv.getD i false&&p6 b i==a)=true then s++[(i:Int)] else s) (fun i s=>s.length<=i) (J:=fun s=>some s) (F:=k0A (l6 b,lv) (a:Int)) (fun g i s hi e=>?_) (fun i s _ e=>?_) (fun g s _=>if_neg (by simp[l6])) [] (Nat.le_refl _)).trans (congrArg some (RN _ _))
 ·have m:((i:Int)).toNat=i:=rfl;have d:ix (i:Int) (l6 b).2.2.1.length:=⟨by omega,by show(i:Int) < ((lV b).length:Int); omega⟩;refine(if_pos (decide_eq_true d.2)).trans ((gP ⟨d,trivial⟩).trans ?_);rw[lE];refine(gP ⟨⟨by omega,by show(i:Int) < (lv.length:Int); omega⟩,(fun _=>rfl),trivial⟩).trans ?_;obtain⟨j,_⟩:=CR b c hi;have f:(((lV b).getD i (a6 y138)).1==(a:Int))=(p6 b i==a):=by
   rw[j,Bool.eq_iff_iff,beq_iff_eq,beq_iff_eq]; omega
  show(if(lv.getD i false&&(((lV b).getD i (a6 y138)).1==(a:Int)))=true then _ else _)=_;rw[f];by_cases h:(lv.getD i false&&p6 b i==a)=true
  ·rw[if_pos h,if_pos h];refine(gP ⟨⟨by grind,by grind⟩,trivial⟩).trans ?_;exact gP ⟨oo,trivial⟩
  ·rw[if_neg h,if_neg h];exact gP ⟨oo,trivial⟩
 grind
theorem P0s(d:x5 b=true){lv:List Bool}(c:lv.length=(lV b).length)(a:Nat):HW (l6 b,lv) (a:Int)=some (R3 (fun i=>lv.getD i false&&p6 b i==a) (lV b).length):=by
 unfold HW;rw[L0q d c,vS,gP ⟨rfl,trivial⟩,lE]
theorem P0t(o:List Int)(h:o.length<=9223372036854775807):QO o 0=some (match(List.range o.length).find? (fun v=>(0:Int)==o.getD v 0) with | some v=>(v:Int) | none => -1):=by
 have a:=KE h (fun v=>(0:Int)==o.getD v 0) (fun v=>some (v:Int)) (e:=some (-1)) (F:=A0U 0 o) 0 (Nat.zero_le _) (fun g i _ hi=>by
  have c:((i:Int)).toNat=i:=rfl;refine(if_pos (decide_eq_true (by omega))).trans ((gP ⟨oo,trivial⟩).trans ?_);rw[c];by_cases b:((0:Int)==o.getD i 0)=true
  ·simp_all
  ·rw[if_neg b,if_neg b];exact gP ⟨oo,trivial⟩) (fun g=>if_neg (by simp))
 rw[Nat.sub_zero,<- List.range_eq_range'] at a;refine Eq.trans a ?_
 grind
end
end Go.Proofs.YtechodbafnmddaaGreatDoor
end
