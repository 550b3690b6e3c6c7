/- The delays of a net's nodes and sinks: the program's way. -/
import Derived.Test.YtechodbafnmddaaGreatDoorWA
import Derived.Test.YtechodbafnmddaaGreatDoorF94b
set_option maxHeartbeats 0
section
namespace Go.Proofs.YtechodbafnmddaaGreatDoor
open Go Go.Proofs Go.Proofs.Sv Go.Proofs.Xv Go.Proofs.Xl Go.Proofs.Xd
def A7(b:j1)(i:Nat):List Int:=D0s (j3 b i).1.length (R9 b i) (CS b i) (fun k=>(A3 b i).getD k 0)
def Y6(b:j1)(i:Nat):List Int:=fN (He (A7 b i) (r9 b i)) (x9 b.2.1 i).length []
theorem NetOk.del{b:j1}{i:Nat}(h:NetOk b i):∀k,k<=(j3 b i).1.length-1->(fN (R6 (R9 b i) (CS b i) (fun k=>(A3 b i).getD k 0)) k [0]).length=k+1/\∀j,0<=(fN (R6 (R9 b i) (CS b i) (fun k=>(A3 b i).getD k 0)) k [0]).getD j 0/\(fN (R6 (R9 b i) (CS b i) (fun k=>(A3 b i).getD k 0)) k [0]).getD j 0<=1000*43000*(k:Int) :=
 v0w (n:=(j3 b i).1.length) (fun k a=>h.wf.resIn k a) (fun k _=>h.loads.2 k) (by decide)
theorem NetOk.delays{b:j1}{i:Nat}(h:NetOk b i):(A7 b i).length=(j3 b i).1.length/\∀j,0<=(A7 b i).getD j 0/\(A7 b i).getD j 0<=301000000:=by
 have a:=h.del _ (Nat.le_refl _);have n1:=h.wf.n1;have n8:=h.wf.n8;refine⟨a.1.trans (by omega),fun j=>⟨(a.2 j).1,Int.le_trans (a.2 j).2 (by omega)⟩⟩
theorem N0A(b:j1)(l:wf j6 b){i:Nat}(h:NetOk b i):MA b (i:Int)=some (A7 b i):=by
 have hi:=h.lt;have P:=l.2.2.1;have n1:=h.wf.n1;have n8:=h.wf.n8;have Q:=h.wf.res;obtain⟨w,r⟩:=h.loads;have E:((i:Int)).toNat=i:=rfl;unfold MA;rw[L0n b l h,vS,gP ⟨oo,rfl,trivial⟩,lE,E];show gd ((0<=((A3 b i).length:Int)/\((A3 b i).length:Int)=((A3 b i).length:Int)/\((A3 b i).length:Int).toNat*8<=281474976710656/\((A3 b i).length:Int)<=9223372036854775807)/\True) (lp (Mz (j3 b i) (A3 b i)) (1,List.replicate ((A3 b i).length:Int).toNat 0))=_;rw[w,gP ⟨⟨by omega,rfl,by omega,by omega⟩,trivial⟩];have u:((1:Int),List.replicate ((j3 b i).1.length:Int).toNat (0:Int))=(fun(k:Nat) (s:List Int)=>(((k+1:Nat):Int),s++List.replicate ((j3 b i).1.length-1-k) 0)) 0 [0]:=by
  show((1:Int),List.replicate (j3 b i).1.length (0:Int))=_;have:(j3 b i).1.length=((j3 b i).1.length-1)+1:=by omega
  rw[this,List.replicate_succ];rfl
 rw[u];refine(lF (n:=(j3 b i).1.length-1) (by omega) (fun(k:Nat) (s:List Int)=>(((k+1:Nat):Int),s++List.replicate ((j3 b i).1.length-1-k) 0)) (R6 (R9 b i) (CS b i) (fun k=>(A3 b i).getD k 0)) (fun k s=>s.length=k+1/\∀j,0<=s.getD j 0/\s.getD j 0<=1000*43000*(k:Int)) (J:=fun s=>some s) (F:=Mz (j3 b i) (A3 b i)) (fun g k s t d=>?_) (fun k s t d=>?_) (fun g s d=>?_) [0] ?_)
 ·obtain⟨f,m⟩:=d;have o:=h.wf.par (k+1) (by omega) (by omega);have e:(s++List.replicate ((j3 b i).1.length-1-k) (0:Int)).length=(j3 b i).1.length:=by rw[List.length_append,List.length_replicate]; omega
  have G:(((k+1:Nat):Int)).toNat=k+1:=rfl;have q:=y0o (n:=(j3 b i).1.length) f o.2;have a:=h.wf.resIn (k+1) (by omega);have c:=r (k+1);have z:=MX a.1 a.2 c.1 c.2;have y:=m ((j3 b i).1.getD (k+1) 0).toNat;show Mz (j3 b i) (A3 b i) g (((k+1:Nat):Int),s++List.replicate ((j3 b i).1.length-1-k) 0)=g (((k+1+1:Nat):Int),R6 (R9 b i) (CS b i) (fun k=>(A3 b i).getD k 0) k s++List.replicate ((j3 b i).1.length-1-(k+1)) 0);have x:R6 (R9 b i) (CS b i) (fun k=>(A3 b i).getD k 0) k s++List.replicate ((j3 b i).1.length-1-(k+1)) 0=(s++List.replicate ((j3 b i).1.length-1-k) 0).set (k+1) (s.getD ((j3 b i).1.getD (k+1) 0).toNat 0+(j3 b i).2.1.getD (k+1) 0*(A3 b i).getD (k+1) 0):=(y0n f (by omega)).symm;rw[x,<- q];generalize s++List.replicate ((j3 b i).1.length-1-k) (0:Int)=v at e q ⊢;refine(if_pos (by grind)).trans ?_;rw[G,gP ⟨oo,⟨o.1,by omega⟩,by omega,oo,oo,by omega,oo,oo,oo,by omega,trivial⟩,lE];exact gP ⟨oo,trivial⟩
 ·obtain⟨f,m⟩:=d;have a:=h.wf.resIn (k+1) (by omega);have c:=r (k+1);have z:=MX a.1 a.2 c.1 c.2
  grind[R9,R6,List.length_append,CS,A3,Nat.lt_or_ge,Jc,Ug,List.getD_cons_zero,List.getD_cons_succ,List.getD_nil]
 ·have H:(j3 b i).1.length-1-((j3 b i).1.length-1)=0:=by omega
  show Mz (j3 b i) (A3 b i) g ((((j3 b i).1.length-1+1:Nat):Int),s++List.replicate ((j3 b i).1.length-1-((j3 b i).1.length-1)) 0)=some s;rw[H,List.replicate_zero,List.append_nil,<- d.1];exact aE
 grind
theorem N0Q(b:j1)(e:wf j6 b){i:Nat}(h:NetOk b i):FB b (i:Int)=some (Y6 b i):=by
 have hi:=h.lt;have m:=e.2.2.1;have c:=h.sn;have r:=h.s78;obtain⟨q,o⟩:=h.delays;have f:((i:Int)).toNat=i:=rfl;unfold FB;rw[N0A b e h,vS,gP ⟨rfl,trivial⟩,lE,gP ⟨oo,trivial⟩,lE,f];unfold Y6;rw[<- c];exact lF (n:=(j3 b i).2.2.2.length) (by omega) (fun(k:Nat) (s:List Int)=>(s,(k:Int))) (He (A7 b i) (r9 b i)) (fun k s=>s.length=k) (J:=fun s=>some s) (F:=A0c (A7 b i) (j3 b i)) (fun g k s d a=>by
  have j:((k:Int)).toNat=k:=rfl;have l:=h.wf.snkIn k d;have a:s.length=k:=a;refine(if_pos (by grind)).trans ?_;rw[j,gP ⟨oo,trivial⟩,gP ⟨⟨l.1,by omega⟩,by omega,⟨by grind,by grind⟩,trivial⟩,lE];exact gP ⟨oo,trivial⟩) (fun k s d a=>by
  grind[He,List.length_append]) (fun g s _=>aE) [] rfl
theorem Hk{b:j1}{i k:Nat}(a:k < (x9 b.2.1 i).length):(Y6 b i).getD k 0=(A7 b i).getD (r9 b i k).toNat 0:=v0q _ _ _ k a
theorem Hl(b:j1)(i:Nat):(Y6 b i).length=(x9 b.2.1 i).length:=Uh _ _ _
theorem N0E(a:A6):MB a=some (J7 a.1 a.2.2.2.1):=by
 unfold MB J7;split
 ·rfl
 split
 ·rfl
 split
 ·rfl
 split
 ·rfl
 split
 ·rfl
 ·rfl
theorem N0R(b:j1)(y:DF b.1 b.2.1){i:Nat}(hi:i<b.2.1.1.length)(f:Int)(X:0<=f)(h1:f<=1000):FC b (l5 b.2.1 i) f=some (AH f (k6 (u4 b i)) (u4 b i).2.2.2.1.length):=by
 obtain⟨v,w,W⟩:=FP y hi;obtain⟨r,G,H,m⟩:=FQ w;unfold FC;rw[gP ⟨v,trivial⟩,lE];show lp (Tt f (u4 b i)) ([],0)=_;generalize u4 b i=c at r G H m;refine lF (n:=c.2.2.2.1.length) (by omega) (fun(j:Nat) (s:List u0)=>(s,(j:Int))) (R7 f (k6 c)) (fun j s=>s.length<=4*j) (J:=fun s=>some s) (F:=Tt f c) (fun g j s l e=>?_) (fun j s l e=>?_) (fun g s _=>aE) [] (Nat.le_refl _)
 ·have Q:((j:Int)).toNat=j:=rfl;obtain⟨T,V,E,q⟩:=m j l;have e:s.length<=4*j:=e;refine(if_pos (by simpa using l)).trans ?_;rw[Q,gP ⟨oo,trivial⟩,lE,N0E,vS,gP ⟨rfl,trivial⟩,lE];show lp (Tr f (k6 c j) (j:Int) (J7 (k6 c j).1 (k6 c j).2.2.2.1) g) (0,s)=g (R7 f (k6 c) j s,_);obtain⟨t,o⟩:=Qb (k6 c j).1 (k6 c j).2.2.2.1;have P:R7 f (k6 c) j s=fN (Aj f (k6 c j).2.1 (k6 c j).2.2.1 (j:Int) (J7 (k6 c j).1 (k6 c j).2.2.2.1)) (J7 (k6 c j).1 (k6 c j).2.2.2.1).length s:=rfl;rw[P];generalize J7 (k6 c j).1 (k6 c j).2.2.2.1=tr at t o;generalize k6 c j=a at T V E q;refine(lF (n:=tr.length) (by omega) (fun(k:Nat) (s:List u0)=>((k:Int),s)) (Aj f a.2.1 a.2.2.1 (j:Int) tr) (fun k z=>z.length=s.length+k) (J:=fun z=>Tq (j:Int) g z) (F:=Tr f a (j:Int) tr g) (fun u k z h hz=>?_) (fun k z h hz=>?_) (fun u z _=>aE) s rfl).trans ?_
  ·have x:((k:Int)).toNat=k:=rfl;have Y:=o _ (K7 (d:=((0,0):Int×Int)) h);have hz:z.length=s.length+k:=hz;refine(if_pos (by simpa using h)).trans ?_;rw[x,gP ⟨oo,h,trivial⟩,lE];show gd _ _=_;rw[gP ⟨oo,oo,oo,⟨by show _<=2*(f+a.2.1)+(tr.getD k (0,0)).1; omega,by show 2*(f+a.2.1)+(tr.getD k (0,0)).1<=_; omega⟩,oo,oo,oo,⟨by show _<=2*(f+a.2.2.1)+(tr.getD k (0,0)).2; omega,by show 2*(f+a.2.2.1)+(tr.getD k (0,0)).2<=_; omega⟩,⟨by show z.length+1<=_; omega,by show(z.length+1)*32<=_; omega⟩,trivial⟩,lE];exact gP ⟨oo,trivial⟩
  ·have hz:z.length=s.length+k:=hz;unfold Aj;rw[List.length_append,hz]; rfl
  ·exact gP ⟨oo,trivial⟩
 ·have e:s.length<=4*j:=e;have:=Ui f (k6 c) j s;show _<=4*(j+1);omega
def Bw(b:j1)(i:Nat)(s:Int×List u0):Int×List u0:=W3 (fun i=>(l5 b.2.1 i).2.2.length) (fun i=>k6 (u4 b i)) (fun i=>(u4 b i).2.2.2.1.length) i s
def K4(b:j1)(i:Nat):Int:=U1 (x7 b.2.1) i (o3 b.2.1).length
def Jh(b:j1):List u0:=(fN (Bw b) b.2.1.1.length (0,[])).2
def lV(b:j1):List u0:=fN (Bu (K4 b) (fun i=>x9 b.2.1 i)) b.2.2.length (Jh b)
def B0p(b:j1):List Int:=fN (AI fun i=>(A3 b i).getD 0 0) b.2.2.length []
def v0v(b:j1):List (List Int):=fN (AI fun i=>Y6 b i) b.2.2.length []
def j9(b:j1):C6:=(b,o3 b.2.1,lV b,B0p b,v0v b,[])
theorem UC{b:j1}(a:DF b.1 b.2.1)(m:Nat)(c:m<=b.2.1.1.length):0<=(fN (Bw b) m (0,[])).1/\(fN (Bw b) m (0,[])).1<=5*(m:Int)/\(fN (Bw b) m (0,[])).2.length<=32*m :=
 n0o (n:=b.2.1.1.length) (fun i hi=>⟨(a.pin i hi).2,(FQ (FP a hi).2.1).2.2.1⟩) m c
def Qj(b:j1)(i:Nat)(s:List Int×List (List Int)×List u0):List Int×List (List Int)×List u0:=(s.1++[(A3 b i).getD 0 0],s.2.1++[Y6 b i],Bu (K4 b) (fun i=>x9 b.2.1 i) i s.2.2)
theorem k0s(b:j1)(z:List u0):∀m,fN (Qj b) m ([],[],z)=(fN (AI fun i=>(A3 b i).getD 0 0) m [],fN (AI fun i=>Y6 b i) m [],fN (Bu (K4 b) (fun i=>x9 b.2.1 i)) m z)
 | 0=>rfl
 | m+1=>by
   show Qj b m (fN (Qj b) m ([],[],z))=_;rw[k0s b z m]; rfl
theorem O0e(b:j1)(hw:wf j6 b)(hb:u3 b=true):ME b=some (j9 b):=by
 obtain⟨aH,H,aG⟩:=W4 hb;have d:=U2 aH;have hd:=hw.2.1;have aN:=d.fac.ni14;have aK:=d.fac.nn30;have aM:=d.len;have aI:b.2.1.1.length<=9223372036854775807:=by omega
 have eN:∀l,D9 l=some (l.length:Int):=fun _=>rfl;unfold ME;rw[Qh b.2.1 hd d.fac.ni14 d.fac.np8 d.pin,vS,gP ⟨rfl,trivial⟩,lE];refine(lF (n:=b.2.1.1.length) aI (fun(i:Nat) (s:Int×List u0)=>(s.1,(i:Int),s.2)) (Bw b) (fun i s=>0<=s.1/\s.1<=5*(i:Int)/\s.2.length<=32*i) (J:=fun s=>MD (o3 b.2.1) b s.2) (F:=A0R b (o3 b.2.1)) (fun g i s hi m=>?_) (fun i s hi m=>?_) (fun g s _=>aE) (0,[]) ⟨Int.le_refl _,Int.le_refl _,Nat.le_refl _⟩).trans ?_
 ·have G:((i:Int)).toNat=i:=rfl;obtain⟨f,z⟩:=s;obtain⟨e,i2,i3⟩:=m;have e:0<=f:=e;have i2:f<=5*(i:Int):=i2;have i3:z.length<=32*i:=i3;have hp:=d.pin i hi;have aB:=MY f (k6 (u4 b i)) (u4 b i).2.2.2.1.length;have aA:=(FQ (FP d hi).2.1).2.2.1;refine(if_pos (by grind)).trans ?_;rw[G,gP ⟨oo,trivial⟩,lE];show gd ((FC b (l5 b.2.1 i) f).isSome=true/\_/\True) _=_;rw[N0R b d hi f e (by omega),vS,gP ⟨rfl,oo,trivial⟩,lE];show gd ((D9 (l5 b.2.1 i).2.2).isSome=true/\b9 (f+vl (D9 (l5 b.2.1 i).2.2))/\True) _=_;rw[eN,vS,gP ⟨rfl,oo,trivial⟩,lE];exact gP ⟨oo,trivial⟩
 ·obtain⟨f,z⟩:=s;obtain⟨e,i2,i3⟩:=m;have e:0<=f:=e;have i2:f<=5*(i:Int):=i2;have i3:z.length<=32*i:=i3;have hp:=d.pin i hi;have aB:=MY f (k6 (u4 b i)) (u4 b i).2.2.2.1.length;have aA:=(FQ (FP d hi).2.1).2.2.1;refine⟨by show 0<=f+((l5 b.2.1 i).2.2.length:Int); omega,by show f+((l5 b.2.1 i).2.2.length:Int)<=_; omega,?_⟩;show(z++AH f (k6 (u4 b i)) (u4 b i).2.2.2.1.length).length<=_
  grind
 have hz:=(UC d _ (Nat.le_refl _)).2.2;have Y:Jh b=(fN (Bw b) b.2.1.1.length (0,[])).2:=rfl;unfold j9 lV B0p v0v;rw[Y];generalize (fN (Bw b) b.2.1.1.length (0,[])).2=z at hz;show MD (o3 b.2.1) b z=_;have aJ:b.2.2.length<=30:=by omega
 rw[MD,gP ⟨⟨by omega,rfl,by omega,by omega⟩,trivial⟩,gP ⟨⟨by omega,rfl,by omega,by omega⟩,trivial⟩];show lp (Tz (o3 b.2.1) b z) (0,List.replicate b.2.2.length [],List.replicate b.2.2.length 0)=_;have h:∀i,i < (o3 b.2.1).length->j2 (x7 b.2.1 i).2.2.1 0 ((b.2.2.length:Int)-1)=true:=fun i hi=>by rw[H]; exact d.plc _ (Qi hi)
 have gf:=n0r (x7 b.2.1) b.2.2.length;refine(lF (n:=(o3 b.2.1).length) (by omega) (fun(i:Nat) (s:List (List Int)×List Int)=>((i:Int),s.1,s.2)) (Y1 (x7 b.2.1)) (fun i s=>s.1.length=b.2.2.length/\s.2.length=b.2.2.length/\∀k:Nat,(s.1.getD k []).length<=i) (J:=fun s=>Tx b (o3 b.2.1) z s) (F:=Tz (o3 b.2.1) b z) (fun g i s hi m=>?_) (fun i s hi m=>?_) (fun g s _=>aE) (List.replicate b.2.2.length [],List.replicate b.2.2.length 0) ⟨List.length_replicate,List.length_replicate,fun k=>?_⟩).trans ?_
 ·obtain⟨a,c⟩:=s;obtain⟨V,P,w⟩:=m;have V:a.length=b.2.2.length:=V;have P:c.length=b.2.2.length:=P;have w:∀k:Nat,(a.getD k []).length<=i:=w;have hp:=A4.1 (h i hi);have G:((i:Int)).toNat=i:=rfl;have j4:∀x y,PF (i:Int) g (x,y)=g (((i+1:Nat):Int),y,x):=fun x y=>gP ⟨oo,trivial⟩;have g4:=w (x7 b.2.1 i).2.2.1.toNat;refine(if_pos (by grind)).trans ?_;rw[G,gP ⟨oo,hi,trivial⟩,lE];show(if(x7 b.2.1 i).2.2.2=true then _ else _)=g (_,(Y1 (x7 b.2.1) i (a,c)).1,(Y1 (x7 b.2.1) i (a,c)).2);unfold Y1;cases(x7 b.2.1 i).2.2.2 with
  | true =>
    rw[if_pos rfl,if_pos rfl];show gd (ix (x7 b.2.1 i).2.2.1 c.length/\_/\True) _=_;rw[gP ⟨oo,by grind,trivial⟩,j4]
  | false =>
    rw[if_neg (by simp),if_neg (by simp)];show gd (ix (x7 b.2.1 i).2.2.1 a.length/\_) _=_;rw[gP ⟨oo,by grind,⟨by grind,by grind⟩,⟨by grind,by grind⟩,⟨by grind,rfl⟩,trivial⟩,lE,j4]
 ·obtain⟨a,c⟩:=s;obtain⟨V,P,w⟩:=m;have V:a.length=b.2.2.length:=V;have P:c.length=b.2.2.length:=P;have w:∀k:Nat,(a.getD k []).length<=i:=w;have hp:=A4.1 (h i hi);unfold Y1
  grind[List.length_set,Uk,List.length_append]
 ·grind
 obtain⟨gl,dl,v⟩:=gf (o3 b.2.1).length h;generalize fN (Y1 (x7 b.2.1)) (o3 b.2.1).length (List.replicate b.2.2.length [],List.replicate b.2.2.length 0)=s at gl dl v;obtain⟨a,c⟩:=s;have gl:a.length=b.2.2.length:=gl;have dl:c.length=b.2.2.length:=dl;have aF:∀k:Nat,k<b.2.2.length->a.getD k []=x9 b.2.1 k:=fun k E=>(v k E).1;have aD:∀k:Nat,k<b.2.2.length->c.getD k 0=K4 b k:=fun k E=>(v k E).2;show lp (Tw c a b (o3 b.2.1)) (0,[],[],z)=_;refine(lF (n:=b.2.2.length) (by omega) (fun(i:Nat) (s:List Int×List (List Int)×List u0)=>((i:Int),s.1,s.2.1,s.2.2)) (Qj b) (fun i s=>s.1.length=i/\s.2.1.length=i/\s.2.2.length<=500+160*i) (J:=fun s=>some (b,o3 b.2.1,s.2.2,s.1,s.2.1,[])) (F:=Tw c a b (o3 b.2.1)) (fun g i s hi m=>?_) (fun i s hi m=>?_) (fun g s _=>aE) ([],[],z) ⟨rfl,rfl,by grind⟩).trans ?_
 ·obtain⟨q,o,r⟩:=s;obtain⟨e,i2,i3⟩:=m;have e:q.length=i:=e;have i2:o.length=i:=i2;have i3:r.length<=500+160*i:=i3;have j:=Bv hb hi;have n1:=j.wf.n1;have T:=j.s78;have aL:=j.loads.1;have G:((i:Int)).toNat=i:=rfl;refine(if_pos (by grind)).trans ?_;rw[L0n b hw j,vS,gP ⟨rfl,oo,by omega,⟨by grind,by grind⟩,trivial⟩,lE,N0Q b hw j,vS,gP ⟨rfl,⟨by grind,by grind⟩,trivial⟩,lE,gP ⟨oo,trivial⟩];have Q:=aF i hi;have aC:=aD i hi;have X:=Uj (x7 b.2.1) i (o3 b.2.1).length;have X:0<=K4 b i/\K4 b i<=((o3 b.2.1).length:Int):=X;show lp (GR c (i:Int) a o (Y6 b i) q (A3 b i) g) (0,r)=g (_,q++[(A3 b i).getD 0 0],o++[Y6 b i],Bu (K4 b) (fun i=>x9 b.2.1 i) i r);refine(lF (n:=(x9 b.2.1 i).length) (by omega) (fun(k:Nat) (s:List u0)=>((k:Int),s)) (Ch (K4 b i) (x9 b.2.1 i)) (fun k y=>y.length=r.length+2*k) (J:=fun y=>Tu (i:Int) g (o++[Y6 b i],q++[(A3 b i).getD 0 0],y)) (F:=GR c (i:Int) a o (Y6 b i) q (A3 b i) g) (fun u k y E hy=>?_) (fun k y E hy=>?_) (fun u y _=>?_) r rfl).trans ?_
  ·have hy:y.length=r.length+2*k:=hy;obtain⟨k1,k2⟩:=Nh E;have e4:((k:Int)).toNat=k:=rfl;show GR c (i:Int) a o (Y6 b i) q (A3 b i) g u ((k:Int),y)=_;rw[GR,G,Q,if_pos (by grind),gP ⟨oo,trivial⟩];show _=u (_,Ch (K4 b i) (x9 b.2.1 i) k y);refine(lF (n:=2) (by decide) (fun(t:Nat) (x:List u0)=>((t:Int),x)) (Um (K4 b i) ((x9 b.2.1 i).getD k 0) (k:Int)) (fun t x=>x.length=y.length+t) (J:=fun x=>Tv (k:Int) u x) (F:=MC c (i:Int) a (k:Int) u) (fun W t x ht hx=>?_) (fun t x ht hx=>?_) (fun W x _=>?_) y rfl).trans ?_
   ·have hx:x.length=y.length+t:=hx;show MC c (i:Int) a (k:Int) u W ((t:Int),x)=_;rw[MC,G,e4,Q,aC,if_pos (decide_eq_true (by omega)),gP ⟨oo,by omega,oo,oo,oo,oo,⟨by grind,by grind⟩,trivial⟩,lE];exact gP ⟨oo,trivial⟩
   ·grind[Um,List.length_append]
   ·grind[MC]
   ·exact gP ⟨oo,trivial⟩
  ·grind[Un]
  ·show GR c (i:Int) a o (Y6 b i) q (A3 b i) g u (((x9 b.2.1 i).length:Int),y)=_
   grind[GR]
  ·exact gP ⟨oo,trivial⟩
 ·obtain⟨q,o,r⟩:=s;obtain⟨e,i2,i3⟩:=m;have e:q.length=i:=e;have i2:o.length=i:=i2;have i3:r.length<=500+160*i:=i3;have T:=(Bv hb hi).s78;refine⟨by show(q++_).length=_; grind,by show(o++_).length=_; grind,?_⟩;show(Bu (K4 b) (fun i=>x9 b.2.1 i) i r).length<=_;unfold Bu
  grind[Qc]
 ·rw[k0s]
end Go.Proofs.YtechodbafnmddaaGreatDoor
end
section
namespace Go.Proofs.Xd
open Go Go.Proofs Go.Proofs.Xl
def A2(x:Nat->F6):Nat->Nat
 | 0=>0
 | i+1=>A2 x i+(x i).2.2.length
theorem n0n(x:F6)(i:Int)(d:B3)(s:List B3):∀n k,k<n->(fN (U0 x i) n s).getD (s.length+k) d=(i,(k:Int),x.2.2.getD k 0,(k:Int)==(x.2.2.length:Int)-1)
 | n+1,k,h=>by
   have b:=Hd x i s n;have a:=n0n x i d s n k
   grind[U0,fN]
theorem n0m(x:F6)(i:Int)(d:B3)(s:List B3):∀n j,j<s.length->(fN (U0 x i) n s).getD j d=s.getD j d
 | 0,_,_=>rfl
 | n+1,j,h=>by
   have b:=Hd x i s n;have a:=n0m x i d s n j h
   grind[U0,fN,Jc]
theorem Ni(x:Nat->F6):∀n,(fN (P7 x) n []).length=A2 x n
 | 0=>rfl
 | n+1=>by
   have:=Ni x n;show(P7 x n (fN (P7 x) n [])).length=_;unfold P7;rw[Hd];show(fN (P7 x) n []).length+_=_;rw[this]; rfl
theorem i0N(x:Nat->F6)(d:B3):∀n i k,i<n->k < (x i).2.2.length->(fN (P7 x) n []).getD (A2 x i+k) d=((i:Int),(k:Int),(x i).2.2.getD k 0,(k:Int)==((x i).2.2.length:Int)-1)
 | n+1,i,k,hi,hk=>by
   have b:=Ni x n;have a:=i0N x d n i k;show(P7 x n (fN (P7 x) n [])).getD _ d=_;generalize fN (P7 x) n []=z at b a;unfold P7;rcases Nat.lt_or_ge i n with h | h
   ·have c:A2 x i+k<z.length:=by
     rw[b];have:∀m,i<m->A2 x i+(x i).2.2.length<=A2 x m:=by
      intro m
      induction m with
      | zero=>omega
      | succ m a =>
        grind[A2,Nat.lt_or_ge]
     have:=this n h;omega
    grind[n0m]
   grind[n0n]
theorem m0T(y:Nat->O5)(d:B3)(s:List B3):∀n j,j<s.length->(fN (Q5 y) n s).getD j d=s.getD j d
 | 0,_,_=>rfl
 | n+1,j,h=>by
   have b:=MV y s n;have a:=m0T y d s n j h
   grind[Q5,fN,Jc]
theorem m0U(y:Nat->O5)(d:B3)(s:List B3):∀n k,k<n->(fN (Q5 y) n s).getD (s.length+k) d=(-1,(k:Int),(y k).2.2,(y k).2.1==1)
 | n+1,k,h=>by
   have b:=MV y s n;have a:=m0U y d s n k
   grind[Q5,fN]
theorem q0p(x:Nat->F6):∀n j,j<A2 x n->∃i k,i<n/\k < (x i).2.2.length/\j=A2 x i+k
 | n+1,j,h=>by
   have h:j<A2 x n+(x n).2.2.length:=h;rcases Nat.lt_or_ge j (A2 x n) with a | a
   ·obtain⟨i,k,d,c,b⟩:=q0p x n j a;exact⟨i,k,by omega,c,b⟩
   ·exact⟨n,j-A2 x n,by omega,by omega,by omega⟩
theorem Nj(x:Nat->F6){i n k:Nat}(hi:i<n)(b:k < (x i).2.2.length):A2 x i+k<A2 x n:=by
 induction n with
 | zero=>omega
 | succ n a =>
   grind[A2,Nat.lt_or_ge]
theorem Ji(ni np:Nat)(x:Nat->F6)(y:Nat->O5):(O7 ni np x y).length=A2 x ni+np:=by
 grind[O7,MV,Ni]
theorem Qk(ni np:Nat)(x:Nat->F6)(y:Nat->O5)(d:B3){i k:Nat}(hi:i<ni)(a:k < (x i).2.2.length):(O7 ni np x y).getD (A2 x i+k) d=((i:Int),(k:Int),(x i).2.2.getD k 0,(k:Int)==((x i).2.2.length:Int)-1):=by
 grind[O7,m0T,Ni,Nj,i0N]
theorem i0M(ni np:Nat)(x:Nat->F6)(y:Nat->O5)(d:B3){k:Nat}(a:k<np):(O7 ni np x y).getD (A2 x ni+k) d=(-1,(k:Int),(y k).2.2,(y k).2.1==1):=by
 grind[O7,Ni,m0U]
theorem r0N(ni np:Nat)(x:Nat->F6)(y:Nat->O5)(d:B3){i k:Nat}(hi:i<ni)(f:k < (x i).2.2.length){j:Nat}(b:j < (O7 ni np x y).length):(((O7 ni np x y).getD j d).1==(i:Int)&&((O7 ni np x y).getD j d).2.1==(k:Int))=decide (j=A2 x i+k):=by
 rw[Bool.eq_iff_iff,ba,beq_iff_eq,beq_iff_eq,dq];rw[Ji] at b;constructor
 ·rintro⟨a,c⟩;rcases Nat.lt_or_ge j (A2 x ni) with h | h
  ·grind[q0p,Qk,Int.ofNat.inj]
  ·have e:j=A2 x ni+(j-A2 x ni):=by omega
   rw[e,i0M ni np x y d (by omega)] at a;omega
 grind[Qk]
def U3(P:Nat->Bool)(m:Nat):Nat:=fN (fun i s=>if P i=true then s+1 else s) m 0
theorem DK(P:Nat->Bool)(m:Nat):U3 P (m+1)=if P m=true then U3 P m+1 else U3 P m:=rfl
theorem q0Z{P:Nat->Bool}:∀{m i:Nat},i<m->P i=true->1<=U3 P m
 | m+1,i,h,hp=>by
   rw[DK];rcases Nat.lt_or_ge i m with a | a
   ·have:=q0Z a hp; split <;> omega
   grind
theorem UD{P:Nat->Bool}:∀{m i j:Nat},i<j->j<m->P i=true->P j=true->2<=U3 P m
 | m+1,i,j,h1,h2,hi,hj=>by
   rw[DK];rcases Nat.lt_or_ge j m with a | a
   ·have:=UD h1 a hi hj; split <;> omega
   ·have:j=m:=by omega
    subst this;have:=q0Z h1 hi
    grind
theorem v0D{P:Nat->Bool}:∀{m:Nat},1<=U3 P m->∃i,i<m/\P i=true
 | 0,h=>by grind[U3,fN]
 | m+1,h=>by
   rw[DK] at h;by_cases a:P m=true
   ·grind
   ·rw[if_neg a] at h;obtain⟨i,c,b⟩:=v0D h
    grind
def Y7(pl:Nat->B3)(t:Int)(j:Nat):Bool:=(pl j).2.2.1==t&&(pl j).2.2.2
theorem n0z{pl:Nat->B3}{t:Int}:∀{m i:Nat},i<m->Y7 pl t i=true->(∀j,i<j->j<m->Y7 pl t j=false)->U1 pl t m=(i:Int)
 | m+1,i,h,hi,hn=>by
   have e:U1 pl t (m+1)=if Y7 pl t m=true then(m:Int) else U1 pl t m:=rfl
   rw[e];rcases Nat.lt_or_ge i m with a | a
   ·rw[if_neg (by grind)];exact n0z a hi (fun j b c=>hn j b (by omega))
   grind
theorem D0q{pl:Nat->B3}{t:Int}{m:Nat}(h:U3 (Y7 pl t) m=1):∃i,i<m/\Y7 pl t i=true/\(∀j,j<m->Y7 pl t j=decide (j=i))/\U1 pl t m=(i:Int):=by
 obtain⟨i,d,c⟩:=v0D (Nat.le_of_eq h.symm);have g:∀j,j<m->Y7 pl t j=true->j=i:=fun j b f=>by
  rcases Nat.lt_trichotomy i j with a | a | a
  ·grind[UD]
  ·omega
  grind[UD]
 refine⟨i,d,c,fun j b=>?_,n0z d c (fun j e b=>?_)⟩
 ·grind
 grind
theorem r0a(P:Nat->Bool)(m:Nat):∀n,U3 P (m+n)=U3 P m+U3 (fun i=>P (m+i)) n
 | 0=>rfl
 | n+1=>by
   rw[<- Nat.add_assoc,DK,DK,r0a P m n];split <;> omega
theorem v0C{P:Nat->Bool}{n:Nat}(h:∀i,i<n->P i=false):U3 P (n+1)=if P n=true then 1 else 0:=by
 have:∀m,m<=n->U3 P m=0:=by
  intro m
  induction m with
  | zero=>intro _; rfl
  | succ m a=>intro b; rw[DK,h m (by omega),if_neg (by simp),a (by omega)]
 rw[DK,this n (Nat.le_refl _)]
theorem q0M{ni np:Nat}{x:Nat->F6}{y:Nat->O5}{d:B3}{a:Nat}(g:∀i,i<ni->1<=(x i).2.2.length/\j2 ((x i).2.2.getD ((x i).2.2.length-1) 0) 0 ((a:Int)-1)=true):∀n,n<=ni->(fN (T9 x) n (List.replicate a 0)).length=a/\∀t:Nat,t<a->(fN (T9 x) n (List.replicate a 0)).getD t 0=(U3 (Y7 (fun j=>(O7 ni np x y).getD j d) t) (A2 x n):Nat)
 | 0,_=>⟨List.length_replicate,fun t l=>by
   show(List.replicate a (0:Int)).getD t 0=_;rw[gq,List.getElem?_replicate,if_pos l]; rfl⟩
 | n+1,hn=>by
   obtain⟨u,s⟩:=q0M (np:=np) (y:=y) (d:=d) g n (by omega);obtain⟨w,c⟩:=g n (by omega);have c:=A4.1 c;have e:fN (T9 x) (n+1) (List.replicate a 0)=T9 x n (fN (T9 x) n (List.replicate a 0)):=rfl;rw[e];generalize fN (T9 x) n (List.replicate a 0)=v at u s;unfold T9 Ce;refine⟨by grind,fun t l=>?_⟩;rw[Uk (by omega)];show _=((U3 _ (A2 x n+(x n).2.2.length):Nat):Int);rw[r0a];have f:∀k,k < (x n).2.2.length->Y7 (fun j=>(O7 ni np x y).getD j d) t (A2 x n+k)=((x n).2.2.getD k 0==(t:Int)&&(k:Int)==((x n).2.2.length:Int)-1):=fun k f=>by
    grind[Y7,O7,A2,Qk]
   obtain⟨m,h⟩:∃m,(x n).2.2.length=m+1:=⟨(x n).2.2.length-1,by omega⟩;have b:(x n).2.2.length-1=m:=by omega
   rw[b] at c;rw[b,h,v0C (fun i hi=>by grind),f m (by omega),h];have o:((m:Int)==((m+1:Nat):Int)-1)=true:=by simp
   rw[o,Bool.and_true];have q:((x n).2.2.getD m 0==(t:Int))=decide (t=((x n).2.2.getD m 0).toNat):=by
    rw[Bool.eq_iff_iff,beq_iff_eq,dq];omega
   rw[q];by_cases r:t=((x n).2.2.getD m 0).toNat
   ·grind
   grind
theorem q0k{ni np:Nat}{x:Nat->F6}{y:Nat->O5}{d:B3}{a:Nat}(c:∀i,i<ni->1<=(x i).2.2.length/\j2 ((x i).2.2.getD ((x i).2.2.length-1) 0) 0 ((a:Int)-1)=true)(b:∀i,i<np->j2 (y i).2.2 0 ((a:Int)-1)=true):∀n,n<=np->(fN (N6 y) n (fN (T9 x) ni (List.replicate a 0))).length=a/\∀t:Nat,t<a->(fN (N6 y) n (fN (T9 x) ni (List.replicate a 0))).getD t 0=(U3 (Y7 (fun j=>(O7 ni np x y).getD j d) t) (A2 x ni+n):Nat)
 | 0,_=>q0M c ni (Nat.le_refl _)
 | n+1,hn=>by
   obtain⟨l,k⟩:=q0k (d:=d) c b n (by omega);have m:=A4.1 (b n (by omega));have e:fN (N6 y) (n+1) (fN (T9 x) ni (List.replicate a 0))=N6 y n (fN (N6 y) n (fN (T9 x) ni (List.replicate a 0))):=rfl;rw[e];generalize fN (N6 y) n (fN (T9 x) ni (List.replicate a 0))=v at l k;have g:∀t:Nat,Y7 (fun j=>(O7 ni np x y).getD j d) t (A2 x ni+n)=((y n).2.2==(t:Int)&&(y n).2.1==1):=fun t=>by
    grind[Y7,O7,A2,i0M]
   have f:∀t:Nat,((y n).2.2==(t:Int))=decide (t=(y n).2.2.toNat):=fun t=>by
    grind
   unfold N6;split
   ·rename_i h;unfold Ce;refine⟨by grind,fun t o=>?_⟩;rw[Uk (by omega),<- Nat.add_assoc,DK,g,f,h]
    grind
   grind[Nat.add_assoc,DK]
def Hm(f:Int)(a:F5)(j:Nat)(t:Nat):u0:=(2*(f+a.2.1)+((J7 a.1 a.2.2.2.1).getD t (0,0)).1,2*(f+a.2.2.1)+((J7 a.1 a.2.2.2.1).getD t (0,0)).2,1,(j:Int))
def DL(d s:Int)(k t:Nat):u0:=(2*d+(t:Int),2*s+(t:Int),2,(k:Int))
theorem k0S{f a b x:Int}{c:List (Int×Int)}{s:List u0}{l:u0}:∀k,l∈fN (Aj f a b x c) k s->l∈s∨∃t,t<k/\l=(2*(f+a)+(c.getD t (0,0)).1,2*(f+b)+(c.getD t (0,0)).2,1,x)
 | 0,h=>.inl h
 | k+1,h=>by
   rcases List.mem_append.1 (show l∈fN (Aj f a b x c) k s++[_] from h) with h | h
   ·rcases k0S k h with h | ⟨t,ht,e⟩
    ·exact .inl h
    ·exact .inr ⟨t,by omega,e⟩
   ·exact .inr ⟨k,by omega,List.mem_singleton.1 h⟩
theorem n0I{f:Int}{a:Nat->F5}{s:List u0}{l:u0}:∀m,l∈fN (R7 f a) m s->l∈s∨∃j t,j<m/\t < (J7 (a j).1 (a j).2.2.2.1).length/\l=Hm f (a j) j t
 | 0,h=>.inl h
 | m+1,h=>by
   rcases k0S _ (show l∈fN (Aj f _ _ (m:Int) _) _ (fN (R7 f a) m s) from h) with h | ⟨t,ht,e⟩
   ·rcases n0I m h with h | ⟨j,t,hj,ht,e⟩
    ·exact .inl h
    ·exact .inr ⟨j,t,by omega,ht,e⟩
   ·exact .inr ⟨m,t,by omega,ht,e⟩
theorem UE{a:Nat->Nat}{b:Nat->Nat->F5}{ms:Nat->Nat}{x:Nat->F6}(c:∀i,a i=(x i).2.2.length):∀m,(fN (W3 a b ms) m (0,[])).1=(A2 x m:Int)
 | 0=>rfl
 | m+1=>by
   show(fN (W3 a b ms) m (0,[])).1+(a m:Int)=((A2 x m+(x m).2.2.length:Nat):Int);rw[UE c m,c m]; omega
theorem k0I{b:Nat->Nat}{a:Nat->Nat->F5}{ms:Nat->Nat}{x:Nat->F6}(c:∀i,b i=(x i).2.2.length){l:u0}:∀m,l∈(fN (W3 b a ms) m (0,[])).2->∃i j t,i<m/\j<ms i/\t < (J7 (a i j).1 (a i j).2.2.2.1).length/\l=Hm (A2 x i:Int) (a i j) j t
 | 0,h=>by cases h
 | m+1,h=>by
   rcases List.mem_append.1 (show l∈(fN (W3 b a ms) m (0,[])).2++AH _ _ _ from h) with h | h
   ·obtain⟨i,j,t,hi,d⟩:=k0I c m h;exact⟨i,j,t,by omega,d⟩
   ·rcases n0I _ h with h | ⟨j,t,hj,ht,e⟩
    ·cases h
    ·rw[UE c m] at e;exact⟨m,j,t,by omega,hj,ht,e⟩
theorem j0Q{d:Int}{a:List Int}{z:List u0}{l:u0}:∀k,l∈fN (Ch d a) k z->l∈z∨∃j t,j<k/\t<2/\l=DL d (a.getD j 0) j t
 | 0,h=>.inl h
 | k+1,h=>by
   have h:l∈(fN (Ch d a) k z++[DL d (a.getD k 0) k 0])++[DL d (a.getD k 0) k 1]:=h;rcases List.mem_append.1 h with h | h
   ·rcases List.mem_append.1 h with h | h
    ·rcases j0Q k h with h | ⟨j,t,hj,ht,e⟩
     ·exact .inl h
     ·exact .inr ⟨j,t,by omega,ht,e⟩
    ·exact .inr ⟨k,0,by omega,by omega,List.mem_singleton.1 h⟩
   ·exact .inr ⟨k,1,by omega,by omega,List.mem_singleton.1 h⟩
theorem n0e{d:Nat->Int}{a:Nat->List Int}{z:List u0}{l:u0}:∀m,l∈fN (Bu d a) m z->l∈z∨∃i j t,i<m/\j < (a i).length/\t<2/\l=DL (d i) ((a i).getD j 0) j t
 | 0,h=>.inl h
 | m+1,h=>by
   rcases j0Q _ (show l∈fN (Ch (d m) (a m)) _ (fN (Bu d a) m z) from h) with h | ⟨j,t,hj,ht,e⟩
   ·rcases n0e m h with h | ⟨i,j,t,hi,hr⟩
    ·exact .inl h
    ·exact .inr ⟨i,j,t,by omega,hr⟩
   ·exact .inr ⟨m,j,t,by omega,hj,ht,e⟩
theorem UG(f a b x:Int)(c:List (Int×Int))(s:List u0):∀k,fN (Aj f a b x c) k s=s++fN (Aj f a b x c) k []
 | 0=>(List.append_nil _).symm
 | k+1=>by
   show fN (Aj f a b x c) k s++[_]=s++(fN (Aj f a b x c) k []++[_]);rw[UG f a b x c s k,List.append_assoc]
theorem n0J(f:Int)(a:Nat->F5)(s:List u0):∀m,fN (R7 f a) m s=s++AH f a m
 | 0=>(List.append_nil _).symm
 | m+1=>by
   show R7 f a m (fN (R7 f a) m s)=s++R7 f a m (AH f a m);rw[n0J f a s m];unfold R7;rw[UG,UG _ _ _ _ _ (AH f a m),List.append_assoc]
end Go.Proofs.Xd
end
section
namespace Go.Proofs.YtechodbafnmddaaGreatDoor
open Go Go.Proofs Go.Proofs.Sv Go.Proofs.Xv Go.Proofs.Xl Go.Proofs.Xd
theorem UH(l:List u0)(f t a b k i:Int)(c:0<=f/\f<=1000)(e:0<=t/\t<=1000)(h:0<=a/\a<=1)(d:0<=b/\b<=1)(g:l.length<=100000):Fq l f t a b k i=some (l++[(2*f+a,2*t+b,k,i)]) :=
 gP ⟨oo,oo,oo,oo,⟨by grind,by grind⟩,trivial⟩
def H0G(k s:Int)(x y:Nat):Bool:=if(k==1)=true then s==3||(s==1)==((x:Int)==(y:Int)) else if(k==2)=true then(x:Int)==0 else if(k==3)=true then(x:Int)==1 else false
def DM(k s f t i:Int)(x y:Nat)(l:List u0):List u0:=if H0G k s x y=true then l++[(2*f+(x:Int),2*t+(y:Int),1,i)] else l
theorem r0l(k s f t i:Int)(x y:Nat)(l:List u0):(DM k s f t i x y l).length<=l.length+1:=by
 grind[DM]
theorem n0P(k s f t i:Int)(x:Nat)(l:List u0):∀n,(fN (DM k s f t i x) n l).length<=l.length+n
 | 0=>Nat.le_refl _
 | n+1=>by
   have h:=n0P k s f t i x l n
   grind[r0l,fN,DM]
theorem r86(a:A6)(l:List u0)(f t i:Int)(h:0<=f/\f<=1000)(k:0<=t/\t<=1000)(m:l.length<=90000):Gy l a f t i=some (fN (fun x s=>fN (DM a.1 a.2.2.2.1 f t i x) 2 s) 2 l):=by
 unfold Gy;refine lF (n:=2) (by decide) (fun(x:Nat) (s:List u0)=>((x:Int),s)) (fun x s=>fN (DM a.1 a.2.2.2.1 f t i x) 2 s) (fun x s=>s.length<=l.length+2*x) (J:=fun s=>some s) (F:=OB f t i a) (fun g x s e b=>?_) (fun x s e b=>?_) (fun g s _=>by
  show OB f t i a g (((2:Nat):Int),s)=_;rw[OB];exact if_neg (by decide)) l (Nat.le_refl _)
 ·have b:s.length<=l.length+2*x:=b;refine(if_pos (decide_eq_true (by omega))).trans ?_;refine(lF (n:=2) (by decide) (fun(y:Nat) (s:List u0)=>((y:Int),s)) (DM a.1 a.2.2.2.1 f t i x) (fun y s=>s.length<=l.length+2*x+y) (J:=fun s=>Sx (x:Int) g s) (F:=Sy f t (x:Int) i a g) (fun c y s d b=>?_) (fun y s d b=>?_) (fun c s _=>by
   grind[Sy]) s b).trans ?_
  ·have b:s.length<=l.length+2*x+y:=b;have j:∀v,OA (y:Int) c v=c (((y+1:Nat):Int),v):=fun v=>gP ⟨oo,trivial⟩;have o:∀v,Fs (y:Int) s f t (x:Int) i c v=c (((y+1:Nat):Int),if v=true then s++[(2*f+(x:Int),2*t+(y:Int),1,i)] else s):=fun v=>by
    cases v with
    | true=>rw[Fs,if_pos rfl,if_pos rfl,UH s f t x y 1 i h k (by omega) (by omega) (by omega),gP ⟨rfl,trivial⟩,vS,lE,j]
    | false=>grind[Fs]
   refine(if_pos (decide_eq_true (by omega))).trans ?_
   grind[DM,H0G]
  ·grind[r0l]
  ·exact gP ⟨oo,trivial⟩
 grind[n0P]
theorem TZ{k s:Int}(h:(k=1/\(s=1∨s=2∨s=3))∨k=2∨k=3)(a A B i:Int)(l:List u0):fN (fun x z=>fN (DM k s (a+A) (a+B) i x) 2 z) 2 l=fN (Aj a A B i (J7 k s)) (J7 k s).length l:=by
 rcases h with ⟨rfl,rfl | rfl | rfl⟩ | rfl | rfl <;> rfl
theorem r87(d:p9)(h:wf y53 d){l:List l6}(a:DF l d){i k:Nat}(hi:i<d.1.length)(e:k < (l5 d i).2.2.length):X6 d (i:Int) (k:Int)=some ((A2 (l5 d) i+k:Nat):Int)/\A2 (l5 d) i+k < (o3 d).length:=by
 have q:=a.len;have c:A2 (l5 d) i+k < (o3 d).length:=by
  have:=Nj (l5 d) hi e;unfold o3;rw[Ji]; omega
 refine⟨?_,c⟩;unfold X6;rw[FN d h a.fac.ni14 a.fac.np8 a.pin,vS,gP ⟨rfl,trivial⟩,lE];have o:∀j,j < (o3 d).length->((x7 d j).1==(i:Int)&&(x7 d j).2.1==(k:Int))=decide (j=A2 (l5 d) i+k):=fun j b=>r0N d.1.length d.2.2.length (l5 d) (B1 d) (a7 y235) hi e b;have m:=CR (n:=(o3 d).length) (by omega) (fun j=>(x7 d j).1==(i:Int)&&(x7 d j).2.1==(k:Int)) (F:=Yb (o3 d) (i:Int) (k:Int)) (fun g j b=>by
  have f:((j:Int)).toNat=j:=rfl;refine(if_pos (by grind)).trans ?_;rw[f,gP ⟨oo,b,(fun _=>oo),(fun _=>b),trivial⟩,gP ⟨oo,trivial⟩]) (fun g=>aE)
 grind
theorem D0r{b:j1}(l:u3 b=true){t:Nat}(n:t<b.2.2.length):U3 (Y7 (x7 b.2.1) t) (o3 b.2.1).length=1:=by
 obtain⟨h,g,_⟩:=W4 l;have e:=U2 h;have c:CQ _ _ _ _ _ _ _ _ _=true:=h;unfold CQ at c;rw[ba] at c;have k:∀i,i<b.2.1.1.length->1<=(l5 b.2.1 i).2.2.length/\j2 ((l5 b.2.1 i).2.2.getD ((l5 b.2.1 i).2.2.length-1) 0) 0 ((b.2.1.2.1.length:Int)-1)=true:=fun i hi=>by
  have f:=(e.pin i hi).1;exact⟨f,e.fac.net.1 i hi _ (by omega)⟩
 obtain⟨m,j⟩:=q0k (d:=a7 y235) k (fun i hi=>e.fac.net.2 i hi) b.2.1.2.2.length (Nat.le_refl _);have a:=IZ (p:=fun x=>x==1) c.2 (i:=t) (by
  grind[FL])
 have f:(FL b.2.1.1.length b.2.1.2.2.length b.2.1.2.1.length (l5 b.2.1) (B1 b.2.1)).getD t 0=1:=beq_iff_eq.1 a;have o:=j t (by omega);unfold FL at f
 grind[Ji,Int.ofNat.inj]
theorem r88(b:j1)(e:wf j6 b)(c:u3 b=true){t:Nat}(l:t<b.2.2.length):KJ b.2.1 (t:Int)=some (K4 b t)/\0<=K4 b t/\(K4 b t).toNat < (o3 b.2.1).length:=by
 have a:=U2 (W4 c).1;have o:=a.len;obtain⟨i,s,r,q,h⟩:=D0q (D0r c l);have m:K4 b t=(i:Int):=h;refine⟨?_,by omega,by omega⟩;unfold KJ;rw[FN b.2.1 e.2.1 a.fac.ni14 a.fac.np8 a.pin,vS,gP ⟨rfl,trivial⟩,lE];have k:=CR (n:=(o3 b.2.1).length) (by omega) (Y7 (x7 b.2.1) t) (F:=XW (o3 b.2.1) (t:Int)) (fun g j d=>by
  have f:((j:Int)).toNat=j:=rfl;refine(if_pos (by grind)).trans ?_;rw[f,gP ⟨oo,d,(fun _=>oo),(fun _=>d),trivial⟩,gP ⟨oo,trivial⟩];rfl) (fun g=>aE)
 grind
theorem n0N{c:l6}(h:Cj G8 c=true){j:Nat}(a:j<c.2.2.2.1.length):G8 c.2.2.1.length (q7 c) (k6 c j)=true:=by
 grind[V9,G8,Ha]
theorem r0k{n:Nat}{p:Nat->O4}{a:F5}(h:G8 n p a=true)(c:a.1<=3):((a.1=1/\(a.2.2.2.1=1∨a.2.2.2.1=2∨a.2.2.2.1=3))∨a.1=2∨a.1=3)/\H6 a.2.2.2.2.1 true=true/\H6 a.2.2.2.2.2 true=true:=by
 unfold G8 at h;simp only[ba] at h;obtain⟨_,h⟩:=h;by_cases b:a.1=1
 ·rw[if_pos b] at h;simp only[ba] at h
  grind[A4]
 grind
theorem r0C{k s:Int}(h:3<k):J7 k s=[]:=by
 grind[J7]
theorem r0D{k s:Int}(h:0 < (J7 k s).length):k=1∨k=2∨k=3:=by
 grind[J7]
def Hn(b:j1)(i:Nat)(s:List u0):List u0:=s++AH (A2 (l5 b.2.1) i) (k6 (u4 b i)) (u4 b i).2.2.2.1.length
theorem UI(b:j1):∀n,fN (Hn b) n []=(fN (Bw b) n (0,[])).2
 | 0=>rfl
 | n+1=>by
   show Hn b n (fN (Hn b) n [])=(fN (Bw b) n (0,[])).2++AH (fN (Bw b) n (0,[])).1 (k6 (u4 b n)) (u4 b n).2.2.2.1.length;have a:(fN (Bw b) n (0,[])).1=(A2 (l5 b.2.1) n:Int):=UE (fun _=>rfl) n;rw[UI b n,a]; rfl
theorem r0G{b:j1}(c:DF b.1 b.2.1){t:Int}{k:Nat}(a:k < (x9 b.2.1 t).length):0<=(x9 b.2.1 t).getD k 0/\(x9 b.2.1 t).getD k 0<=1000:=by
 have:=Nh a;have:=c.len;omega
theorem UJ(b:j1)(P:wf j6 b)(r:u3 b=true):Bf b=some (lV b):=by
 obtain⟨G,l,E⟩:=W4 r;have e:=U2 G;have X:=P.2.1;have aC:=e.fac.ni14;have aA:=e.fac.nn30;have aB:=e.len;unfold Bf;refine(lF (n:=b.2.1.1.length) (by omega) (fun(i:Nat) (s:List u0)=>((i:Int),s)) (Hn b) (fun i s=>s.length<=32*i) (J:=OC b) (F:=Yg b) (fun g i s hi a=>?_) (fun i s hi a=>?_) (fun g s _=>aE) [] (Nat.le_refl _)).trans ?_
 ·have a:s.length<=32*i:=a;have e3:((i:Int)).toNat=i:=rfl;obtain⟨Q,t,x3⟩:=FP e hi;obtain⟨c1,c2,c3,c4⟩:=FQ t;have c:=fun k d=>r87 b.2.1 X e (i:=i) (k:=k) hi d;refine(if_pos (by grind)).trans ?_;rw[e3,gP ⟨oo,Q,trivial⟩,lE];refine(lF (n:=(u4 b i).2.2.2.1.length) (by omega) (fun(j:Nat) (z:List u0)=>((j:Int),z)) (R7 (A2 (l5 b.2.1) i) (k6 (u4 b i))) (fun j z=>z.length<=s.length+4*j) (J:=SA (i:Int) g) (F:=Yf (u4 b i) b (i:Int) g) (fun h j z w hz=>?_) (fun j z w hz=>?_) (fun h z _=>aE) s (Nat.le_refl _)).trans ?_
  ·have hz:z.length<=s.length+4*j:=hz;have H:((j:Int)).toNat=j:=rfl;obtain⟨a1,a2,a3,a4⟩:=c4 j w;have ha:=n0N t w;have W:∀v,KK (j:Int) h v=h (((j+1:Nat):Int),v):=fun v=>gP ⟨oo,trivial⟩;refine(if_pos (by grind)).trans ?_;rw[H,gP ⟨oo,trivial⟩];show(if decide ((k6 (u4 b i) j).1<=3)=true then _ else _)=h (((j+1:Nat):Int),R7 (A2 (l5 b.2.1) i) (k6 (u4 b i)) j z);by_cases d:(k6 (u4 b i) j).1<=3
   ·refine(if_pos (decide_eq_true d)).trans ?_;obtain⟨k1,k2,k3⟩:=r0k ha d;obtain⟨A,hA⟩:∃A:Nat,(k6 (u4 b i) j).2.1=(A:Int):=⟨(k6 (u4 b i) j).2.1.toNat,by omega⟩;obtain⟨B,hB⟩:∃B:Nat,(k6 (u4 b i) j).2.2.1=(B:Int):=⟨(k6 (u4 b i) j).2.2.1.toNat,by omega⟩;obtain⟨fA,lA⟩:=c A (by omega);obtain⟨fB,lB⟩:=c B (by omega);have T:=r86 (k6 (u4 b i) j) z ((A2 (l5 b.2.1) i+A:Nat):Int) ((A2 (l5 b.2.1) i+B:Nat):Int) (j:Int) (by omega) (by omega) (by omega);have V:=TZ k1 (A2 (l5 b.2.1) i:Int) (A:Int) (B:Int) (j:Int) z;rw[<- Int.natCast_add,<- Int.natCast_add] at V;rw[V] at T;show gd (ix (j:Int) (u4 b i).2.2.2.1.length/\ix (j:Int) (u4 b i).2.2.2.1.length/\(X6 b.2.1 (i:Int) (k6 (u4 b i) j).2.1).isSome=true/\ix (j:Int) (u4 b i).2.2.2.1.length/\(X6 b.2.1 (i:Int) (k6 (u4 b i) j).2.2.1).isSome=true/\(Gy z (k6 (u4 b i) j) (vl (X6 b.2.1 (i:Int) (k6 (u4 b i) j).2.1)) (vl (X6 b.2.1 (i:Int) (k6 (u4 b i) j).2.2.1)) (j:Int)).isSome=true/\True) (lt (vl (Gy z (k6 (u4 b i) j) (vl (X6 b.2.1 (i:Int) (k6 (u4 b i) j).2.1)) (vl (X6 b.2.1 (i:Int) (k6 (u4 b i) j).2.2.1)) (j:Int))) fun v=>KK (j:Int) h v)=_;rw[hA,hB,fA,fB,vS,vS,T,vS,gP ⟨oo,oo,rfl,oo,rfl,rfl,trivial⟩,lE,W]
    grind[R7]
   ·refine(if_neg (by grind)).trans ?_;rw[W];unfold R7;rw[r0C (by omega)];rfl
  ·grind[Ui]
  ·rw[n0J];exact gP ⟨oo,trivial⟩
 ·have a:s.length<=32*i:=a;obtain⟨Q,t,x3⟩:=FP e hi;have c3:=(FQ t).2.2.1;have:=MY (A2 (l5 b.2.1) i) (k6 (u4 b i)) (u4 b i).2.2.2.1.length
  grind[Hn,List.length_append]
 ·have f:(fN (Hn b) b.2.1.1.length []).length<=500:=by
   have:=UC e b.2.1.1.length (Nat.le_refl _);rw[UI];omega
  have u:fN (Hn b) b.2.1.1.length []=Jh b:=UI b _;unfold lV;rw[u] at f ⊢;generalize Jh b=z at f ⊢;unfold OC;rw[l];refine lF (n:=b.2.1.2.1.length) (by omega) (fun(i:Nat) (s:List u0)=>((i:Int),s)) (Bu (K4 b) (fun i=>x9 b.2.1 i)) (fun i s=>s.length<=500+160*i) (J:=fun s=>some s) (F:=Ye b) (fun g i s hi a=>?_) (fun i s hi a=>?_) (fun g s _=>aE) z f
  ·have a:s.length<=500+160*i:=a;have q:i<b.2.2.length:=by omega
   have o:=(Bv r q).s78;obtain⟨Y,d2,d3⟩:=r88 b P r q;have es:Ba b.2.1 (i:Int)=some (x9 b.2.1 i):=Uz b.2.1 X e _;refine(if_pos (by grind)).trans ?_;rw[Y,vS,gP ⟨rfl,trivial⟩,lE,es,vS,gP ⟨rfl,trivial⟩,lE];refine(lF (n:=(x9 b.2.1 i).length) (by omega) (fun(k:Nat) (y:List u0)=>((k:Int),y)) (Ch (K4 b i) (x9 b.2.1 i)) (fun k y=>y.length=s.length+2*k) (J:=Sz (i:Int) g) (F:=Yd (K4 b i) (x9 b.2.1 i) (i:Int) g) (fun g8 k y d x=>?_) (fun k y d x=>?_) (fun g8 y _=>aE) s rfl).trans ?_
   ·have x:y.length=s.length+2*k:=x;have H:((k:Int)).toNat=k:=rfl;have m:=r0G e d;have p1:=UH y (K4 b i) ((x9 b.2.1 i).getD k 0) 0 0 2 (k:Int) (by omega) m oo oo (by omega);have p2:=UH (y++[(2*K4 b i+0,2*(x9 b.2.1 i).getD k 0+0,2,(k:Int))]) (K4 b i) ((x9 b.2.1 i).getD k 0) 1 1 2 (k:Int) (by omega) m oo oo (by grind);refine(if_pos (by grind)).trans ?_;rw[H,p1,vS,gP ⟨oo,d,rfl,trivial⟩,lE,p2,vS,gP ⟨oo,d,rfl,trivial⟩,lE];exact gP ⟨oo,trivial⟩
   ·grind[Un]
   ·exact gP ⟨oo,trivial⟩
  ·have a:s.length<=500+160*i:=a;have o:=(Bv r (show i<b.2.2.length by omega)).s78;unfold Bu
   grind[Qc]
theorem W6{b:j1}(a:u3 b=true):(lV b).length<=6000:=by
 have d:=U2 (W4 a).1;have f:=d.fac.ni14;have k:=UC d b.2.1.1.length (Nat.le_refl _);have j:=q0D (K4 b) (fun i=>x9 b.2.1 i) (Jh b) (n:=b.2.2.length) (c:=78) (fun i hi=>(Bv a hi).s78) b.2.2.length (Nat.le_refl _);have h:=(W4 a).2.1;have e:=d.fac.nn30;have g:(Jh b).length=(fN (Bw b) b.2.1.1.length (0,[])).2.length:=rfl
 grind[lV]
theorem u0X{b:j1}{l:u0}(h:l∈lV b):(∃i j t,i<b.2.1.1.length/\j < (u4 b i).2.2.2.1.length/\t < (J7 (k6 (u4 b i) j).1 (k6 (u4 b i) j).2.2.2.1).length/\l=Hm (A2 (l5 b.2.1) i:Int) (k6 (u4 b i) j) j t) ∨
  ∃i k t,i<b.2.2.length/\k < (x9 b.2.1 i).length/\t<2/\l=DL (K4 b i) ((x9 b.2.1 i).getD k 0) k t:=by
 rcases n0e _ h with h | h
 ·exact .inl (k0I (fun _=>rfl) _ h)
 grind
end Go.Proofs.YtechodbafnmddaaGreatDoor
end
section
namespace Go.Proofs.Xd
open Go Go.Proofs.Xv Go.Proofs.Xl
theorem y0z{xs:List Int}(h:H5 xs=true):∀i,0<i->i<xs.length->xs.getD (i-1) 0<xs.getD i 0:=by
 simp only[H5,ba,dq] at h;intro i a hi;have:=Cf.1 h.2 i hi;simp only[Bool.and_eq_false_iff,decide_eq_false_iff_not] at this;omega
theorem v0N{xs:List Int}(h:H5 xs=true):∀k i,i+k<xs.length->0<k->xs.getD i 0<xs.getD (i+k) 0:=by
 intro k
 induction k with
 | zero=>intro i _ d; omega
 | succ k b =>
   intro i hi _;have a:=y0z h (i+(k+1)) (by omega) hi;have e:i+(k+1)-1=i+k:=by omega
   rw[e] at a;by_cases c:k=0
   ·subst c; exact a
   ·have:=b i (by omega) (by omega); omega
theorem CT{xs:List Int}(h:H5 xs=true){i j:Nat}(a:i<j)(b:j<xs.length):xs.getD i 0<xs.getD j 0:=by
 have:=v0N h (j-i) i (by omega) (by omega);have e:i+(j-i)=j:=by omega
 rwa [e] at this
theorem Nk{xs:List Int}(h:H5 xs=true){i:Nat}(hi:i<xs.length):0<=xs.getD i 0/\xs.getD i 0<=100000:=by
 simp only[H5,ba,dq] at h;have a:=h.1.2;rw[List.all_eq_true] at a;have e:xs.getD i 0=xs[i]:=by rw[gq,List.getElem?_eq_getElem hi]; rfl
 rw[e];exact A4.1 (a _ (List.getElem_mem hi))
theorem p0V{t:DE}(h:C5 t=true){i:Nat}(hi:i<t.2.2.length) : -1000000<=t.2.2.getD i 0/\t.2.2.getD i 0<=1000000:=by
 simp only[C5,ba,dq] at h;have a:=h.2;rw[List.all_eq_true] at a;have e:t.2.2.getD i 0=t.2.2[i]:=by rw[gq,List.getElem?_eq_getElem hi]; rfl
 rw[e];exact A4.1 (a _ (List.getElem_mem hi))
theorem v0O{xs:List Int}(h:H5 xs=true){x:Int}(_:xs.getD 0 0<=x)(o:x<=xs.getD (xs.length-1) 0):∃p,p<xs.length/\(∀i,i<p->xs.getD i 0<x)/\(∀i,p<=i->i<xs.length->x<=xs.getD i 0):=by
 have b:∀m,m<=xs.length->(∃p,p<m/\(∀i,i<p->xs.getD i 0<x)/\x<=xs.getD p 0)∨∀i,i<m->xs.getD i 0<x:=by
  intro m
  induction m with
  | zero=>exact fun _=>.inr fun i hi=>by omega
  | succ m j =>
    intro l;rcases j (by omega) with ⟨p,e,a,c⟩ | a
    ·exact .inl ⟨p,by omega,a,c⟩
    ·by_cases f:x<=xs.getD m 0
     ·exact .inl ⟨m,by omega,a,f⟩
     ·exact .inr fun i hi=>by
       by_cases d:i=m
       ·subst d; omega
       ·exact a i (by omega)
 have n:=CO h;rcases b xs.length (Nat.le_refl _) with ⟨p,e,a,c⟩ | a
 ·refine⟨p,e,a,fun i g hi=>?_⟩;by_cases k:p=i
  ·subst k; exact c
  ·have:=CT h (by omega:p<i) hi; omega
 ·have:=a (xs.length-1) (by omega); omega
theorem Ck{a b:Type}{F:(a->Option b)->a->Option b}{s:a}{r:Option b}(k:Nat)(c:k<=9223372036854775807)(h:∀n,I0 F (n+k) s=r):lp F s=r:=by
 have e:O9=(O9-k)+k:=by have:=Ql c; omega
 unfold lp;rw[e];exact h _
theorem C0L(i j:Nat):((i:Int)+(j:Int)).fdiv ((2:Int) ^ Int.toNat (1:Int))=((((i+j) / 2:Nat)):Int):=by
 have e:(2:Int) ^ Int.toNat (1:Int)=2:=by decide
 rw[e,Int.fdiv_eq_ediv_of_nonneg _ (by omega)];omega
theorem K8{x y A B:Int}(f : -A<=x)(e:x<=A)(a:0<=y)(d:y<=B)(b:0<=A) : -(A*B)<=x*y/\x*y<=A*B:=by
 have g:x*y<=A*y:=Int.mul_le_mul_of_nonneg_right e a;have h:A*y<=A*B:=Int.mul_le_mul_of_nonneg_left d b;have c : -A*y<=x*y:=Int.mul_le_mul_of_nonneg_right f a;rw[Int.neg_mul] at c;omega
theorem Qm{p q b a:Nat}(c:p<b)(e:q<a):p*a+q<b*a:=by
 have d:(p+1)*a<=b*a:=Nat.mul_le_mul_right _ c;rw[Nat.add_mul,Nat.one_mul] at d;omega
end Go.Proofs.Xd
end
section
namespace Go.Proofs.Xd
open Go Go.Proofs Go.Proofs.Xl
def p7(a b m:Int):Int:=if(decide (a.tmod b<0)&&m==0)=true then a.tdiv b-1 else if(decide (0<a.tmod b)&&m==1)=true then a.tdiv b+1 else a.tdiv b
theorem FR{a b K:Int}(m:Int)(c:0<b)(s : -(K*b)<=a)(r:a<=K*b) : -K<=p7 a b m/\p7 a b m<=K:=by
 have e:=Int.mul_tdiv_add_tmod a b;have j:=Int.tmod_lt_of_pos a c;have n:=Int.lt_tmod_of_pos a c;have k:b*K=K*b:=Int.mul_comm _ _;have i:∀q:Int,b*q<b*K+b->q<=K:=fun q h=>by
  have:b*q<b*(K+1):=by rw[Int.mul_add,Int.mul_one]; exact h
  have:=Int.lt_of_mul_lt_mul_left this (Int.le_of_lt c);omega
 have f:∀q:Int,-(b*K)-b<b*q -> -K<=q:=fun q h=>by
  have:b*(-K-1)<b*q:=by rw[Int.mul_sub,Int.mul_one,Int.mul_neg]; exact h
  have:=Int.lt_of_mul_lt_mul_left this (Int.le_of_lt c);omega
 have d:∀q:Int,b*q<b*K->q<K:=fun q h=>Int.lt_of_mul_lt_mul_left h (Int.le_of_lt c);have g:∀q:Int,-(b*K)<b*q -> -K<q:=fun q h=>by
  have:b*(-K)<b*q:=by rw[Int.mul_neg]; exact h
  exact Int.lt_of_mul_lt_mul_left this (Int.le_of_lt c)
 have o:=i (a.tdiv b) (by omega);have l:=f (a.tdiv b) (by omega);unfold p7;split
 ·rename_i h;rw[ba,dq] at h;have:=g (a.tdiv b) (by omega);omega
 ·split
  ·rename_i h;rw[ba,dq] at h;have:=d (a.tdiv b) (by omega);omega
  ·omega
theorem C0R{a e:Type}{F:(a->Option e)->a->Option e}{J:a->Option e}(d:a->Nat)(I:a->Prop)(c:a->Bool)(nx:a->a)
  (h:∀g s,I s->F g s=if c s=true then g (nx s) else J s) (l:∀s,I s->c s=true->I (nx s)/\d (nx s)<d s) (s:a) (b:I s) (u:d s<=9223372036854775806):∃s',I s'/\c s'=false/\lp F s=J s':=by
 have f:∀(n:Nat) (s:a),d s<=n->I s->∃s',I s'/\c s'=false/\∀k,I0 F (k+(n+1)) s=J s':=by
  intro n
  induction n with
  | zero =>
    intro s o b;cases hc:c s with
    | true=>have:=(l s b hc).2; omega
    | false=>exact⟨s,b,hc,fun k=>by show F (I0 F k) s=_; rw[h _ _ b,hc]; rfl⟩
  | succ n r =>
    intro s o b;cases hc:c s with
    | true =>
      obtain⟨j,m⟩:=l s b hc;obtain⟨s',i,q,t⟩:=r (nx s) (by omega) j;refine⟨s',i,q,fun k=>?_⟩;show F (I0 F (k+(n+1))) s=_;rw[h _ _ b,hc,if_pos rfl];exact t k
    | false=>exact⟨s,b,hc,fun k=>by show F (I0 F (k+(n+1))) s=_; rw[h _ _ b,hc]; rfl⟩
 obtain⟨s',j,m,i⟩:=f (d s) s (Nat.le_refl _) b;exact⟨s',j,m,Ck (d s+1) (by omega) i⟩
def Bx(n r:Int):Prop:=0<=r/\r*r<=n/\n < (r+1)*(r+1)
theorem C0v{a b:Int}(c:0<=a)(h:a<=b):a*a<=b*b:=Int.mul_le_mul h h c (Int.le_trans c h)
theorem UK{a b:Int}(c:0<=a)(h:a<b):a*a<b*b:=by
 have:=Int.mul_le_mul (show a+1<=b by omega) (show a+1<=b by omega) (by omega) (by omega);have e:(a+1)*(a+1)=a*a+2*a+1:=by rw[Int.add_mul,Int.mul_add,Int.one_mul,Int.mul_one]; omega
 omega
theorem q0F{a b:Int}(d:0<=b)(h:a*a<b*b):a<b:=by
 by_cases c:a<b
 ·exact c
 ·have:=C0v d (show b<=a by omega); omega
theorem UL{l h:Int}(b:0<=l)(a:l<h):(l+h+1).tdiv 2=(l+h+1) / 2/\l < (l+h+1) / 2/\(l+h+1) / 2<=h:=by
 refine⟨Int.tdiv_eq_ediv_of_nonneg (by omega),by omega,by omega⟩
end Go.Proofs.Xd
end
section
namespace Go.Proofs.YtechodbafnmddaaGreatDoor
open Go Go.Proofs Go.Proofs.Xv Go.Proofs.Xl Go.Proofs.Xd
theorem U4(a b m:Int)(h : -1000000000000000000<=a)(j:a<=1000000000000000000)(e:0<b):BT a b m=some (p7 a b m)/\U9 a b m=some (p7 a b m):=by
 have i:a.tdiv b<=1000000000000000000 /\ -1000000000000000000<=a.tdiv b:=by
  have k:(a.tdiv b).natAbs<=a.natAbs:=by
   rw[Int.natAbs_tdiv];exact Nat.div_le_self _ _
  omega
 have f:b9 (a.tdiv b-1)/\True:=⟨oo,trivial⟩;have g:b9 (a.tdiv b+1)/\True:=⟨oo,trivial⟩;unfold BT U9 p7;rw[gP (V:=0<b/\0<b/\True) ⟨e,e,trivial⟩,gP (V:=0<b/\True) ⟨e,trivial⟩,gP (V:=0<b/\True) ⟨e,trivial⟩,gP f,gP g,Bool.and_comm (m==0),Bool.and_comm (m==1)];by_cases c:(decide (a.tmod b<0)&&m==0)=true
 ·rw[if_pos c,if_pos c]; exact⟨rfl,rfl⟩
 ·by_cases d:(decide (0<a.tmod b)&&m==1)=true
  ·rw[if_neg c,if_pos d,if_neg c,if_pos d]; exact⟨rfl,rfl⟩
  ·rw[if_neg c,if_neg d,if_neg c,if_neg d]; exact⟨rfl,rfl⟩
end Go.Proofs.YtechodbafnmddaaGreatDoor
end
section
namespace Go.Proofs.YtechodbafnmddaaGreatDoor
open Go Go.Proofs Go.Proofs.Sv Go.Proofs.Xv Go.Proofs.Xl Go.Proofs.Xd
theorem N0q(l:List l6)(d:p9)(b:DF l d){p:B3}(a:p∈o3 d):Gt l d p=some (FO l d p):=by
 unfold Gt FO;rcases UB b a with h | ⟨h1,h2,h3,h4,h5,h6⟩
 ·grind
 ·refine(if_neg (by grind)).trans ?_;rw[if_neg (by omega),gP ⟨oo,⟨h3,by grind⟩,⟨h5,by grind⟩,trivial⟩];rfl
theorem N0r(xs:List Int)(h:xs.length<=1048576):Oo xs=some xs:=gP ⟨oo,trivial⟩
theorem L0h(b:j1)(t:wf j6 b){i:Nat}(h:NetOk b i):As b (i:Int)=some (A3 b i):=by
 have y:=t.2.1;have df:=h.df;have hb:=t.2.2.1;have hi:=h.lt;have n1:=h.wf.n1;have n8:=h.wf.n8;have H:=h.sn;have hs:=h.s78;have G:=h.wf.cap;unfold As;have Y:((i:Int)).toNat=i:=rfl;have es:Ba b.2.1 (i:Int)=some (x9 b.2.1 i):=Uz b.2.1 y df _;rw[gP ⟨oo,trivial⟩,lE,Y,N0r _ (by grind),vS,gP ⟨rfl,trivial⟩,lE,FN b.2.1 y df.fac.ni14 df.fac.np8 df.pin,vS,gP ⟨rfl,trivial⟩,lE,es,vS,gP ⟨rfl,trivial⟩,lE];have m:=lF (n:=(x9 b.2.1 i).length) (by omega) (fun k (s:List Int)=>((k:Int),s)) (Cg (r9 b i) (W5 b i)) (fun k v=>Low v (j3 b i).1.length (500*((j3 b i).1.length:Int)+500*(k:Int))) (J:=Oq (j3 b i)) (F:=XG b (o3 b.2.1) (x9 b.2.1 i) (j3 b i)) (fun g k v c a=>by
  have e4:((k:Int)).toNat=k:=rfl;obtain⟨u,q,x,z⟩:=h.capIn c;obtain⟨X,r⟩:=Nh c;have hv:=a.bd (by omega) (r9 b i k).toNat;have j:0<=(j3 b i).2.2.2.getD k 0:=u;have l:((j3 b i).2.2.2.getD k 0).toNat<v.length:=by rw[a.len]; exact q
  refine(if_pos (by grind)).trans ?_;rw[e4,N0q b.1 b.2.1 df (Qi r),vS];rw[gP ⟨oo,⟨j,by omega⟩,l,oo,c,⟨X,by omega⟩,r,rfl,⟨by grind[r9,W5],by grind[r9,W5]⟩,⟨j,by omega⟩,l,trivial⟩,lE];exact gP ⟨oo,trivial⟩) (fun k v c a=>by
  obtain⟨u,q,x,z⟩:=h.capIn c;have:=a.add q x;refine⟨this.len,this.pos,Int.le_trans this.sum ?_⟩;omega) (fun g s _=>aE) (j3 b i).2.2.1 (by
  have:=h.low 0 (Nat.zero_le _);exact this)
 refine m.trans ?_;have d:=(h.low _ (Nat.le_refl _)).len;have e:=h.pull 0 (Nat.zero_le _);have T:A3 b i=fN (W2 (R9 b i) (j3 b i).1.length) ((j3 b i).1.length-1) (fN (Cg (r9 b i) (W5 b i)) (x9 b.2.1 i).length (j3 b i).2.2.1):=rfl;rw[T];have o:=h.pull;generalize fN (Cg (r9 b i) (W5 b i)) (x9 b.2.1 i).length (j3 b i).2.2.1=v0 at d e o ⊢;rw[Oq,d,gP ⟨oo,trivial⟩];have P:(((j3 b i).1.length:Int)-1,v0)=(fun(k:Nat) (s:List Int)=>(((j3 b i).1.length:Int)-1-(k:Int),s)) 0 v0:=by simp
 rw[P];exact lF (n:=(j3 b i).1.length-1) (by omega) (fun(k:Nat) (s:List Int)=>(((j3 b i).1.length:Int)-1-(k:Int),s)) (W2 (R9 b i) (j3 b i).1.length) (fun k v=>Jb v (j3 b i).1.length k 43000) (J:=fun s=>some s) (F:=Ii (j3 b i)) (fun g k v c a=>by
  have E:=h.wf.par ((j3 b i).1.length-1-k) (by omega) (by omega);have f:0<=(j3 b i).1.getD ((j3 b i).1.length-1-k) 0/\((j3 b i).1.getD ((j3 b i).1.length-1-k) 0).toNat < (j3 b i).1.length-1-k:=E;have w:=a.len;have V:((j3 b i).1.length:Int)-1-(k:Int)=(((j3 b i).1.length-1-k:Nat):Int):=by omega
  have e7:((((j3 b i).1.length-1-k:Nat):Int)).toNat=(j3 b i).1.length-1-k:=rfl;have b1:=a.pos ((j3 b i).1.getD ((j3 b i).1.length-1-k) 0).toNat;have b2:=a.bd ((j3 b i).1.getD ((j3 b i).1.length-1-k) 0).toNat;have b3:=a.pos ((j3 b i).1.length-1-k);have b4:=a.bd ((j3 b i).1.length-1-k);have W:((j3 b i).1.length:Int)-1-((k+1:Nat):Int)=(((j3 b i).1.length-1-k:Nat):Int)-1:=by omega
  show Ii (j3 b i) g (((j3 b i).1.length:Int)-1-(k:Int),v)=g (((j3 b i).1.length:Int)-1-((k+1:Nat):Int),W2 (R9 b i) (j3 b i).1.length k v);rw[W,V];refine(if_pos (decide_eq_true (by omega))).trans ?_;rw[e7,gP ⟨oo,⟨f.1,by omega⟩,by omega,oo,by omega,oo,⟨f.1,by omega⟩,by omega,trivial⟩,lE];exact gP ⟨oo,trivial⟩) (fun k v c a=>Uf a c (h.wf.par _ (by omega) (by omega))) (fun g s _=>by
  have Q:((j3 b i).1.length:Int)-1-(((j3 b i).1.length-1:Nat):Int)=0:=by omega
  show Ii (j3 b i) g (((j3 b i).1.length:Int)-1-(((j3 b i).1.length-1:Nat):Int),s)=some s;rw[Q];have:Ii (j3 b i) g (0,s)=Sk s:=by
   rw[Ii];exact if_neg (by decide)
  exact this.trans rfl) v0 e
theorem L0g(b:j1)(e:wf j6 b){i:Nat}(h:NetOk b i):CD b (i:Int)=some (A7 b i):=by
 have hi:=h.lt;have y:=e.2.2.1;have n1:=h.wf.n1;have n8:=h.wf.n8;have z:=h.wf.res;obtain⟨E,f⟩:=h.loads;have r:((i:Int)).toNat=i:=rfl;unfold CD;rw[L0h b e h,vS,gP ⟨oo,trivial⟩,lE,gP ⟨rfl,trivial⟩,lE,r];have v:((1:Int),[(0:Int)])=(fun(k:Nat) (s:List Int)=>(((k+1:Nat):Int),s)) 0 [0]:=rfl;rw[v];refine(lF (n:=(j3 b i).1.length-1) (by omega) (fun(k:Nat) (s:List Int)=>(((k+1:Nat):Int),s)) (R6 (R9 b i) (CS b i) (fun k=>(A3 b i).getD k 0)) (fun k s=>s.length=k+1/\∀j,0<=s.getD j 0/\s.getD j 0<=1000*43000*(k:Int)) (J:=fun s=>some s) (F:=Sn (j3 b i) (A3 b i)) (fun g k s o d=>?_) (fun k s o d=>?_) (fun g s d=>?_) [0] ?_)
 ·obtain⟨w,l⟩:=d;have m:=h.wf.par (k+1) (by omega) (by omega);have t:(((k+1:Nat):Int)).toNat=k+1:=rfl;have a:=h.wf.resIn (k+1) (by omega);have c:=f (k+1);have q:=MX a.1 a.2 c.1 c.2;have u:=l ((j3 b i).1.getD (k+1) 0).toNat;refine(if_pos (by grind)).trans ?_;rw[t,gP ⟨oo,⟨m.1,by omega⟩,by omega,oo,oo,by omega,oo,oo,⟨by grind,by grind⟩,trivial⟩,lE];exact gP ⟨oo,trivial⟩
 ·obtain⟨w,l⟩:=d;have a:=h.wf.resIn (k+1) (by omega);have c:=f (k+1);have q:=MX a.1 a.2 c.1 c.2
  grind[R9,R6,List.length_append,CS,A3,Nat.lt_or_ge,Jc,Ug,List.getD_cons_zero,List.getD_cons_succ,List.getD_nil]
 ·have x:(j3 b i).1.length-1+1=(A3 b i).length:=by omega
  show Sn (j3 b i) (A3 b i) g ((((j3 b i).1.length-1+1:Nat):Int),s)=some s;rw[x];exact aE
 grind
def Qn(b:j1)(i:Nat)(m:Int):List Int:=fN (AI fun k=>p7 ((A7 b i).getD (r9 b i k).toNat 0) 1000 m) (x9 b.2.1 i).length []
theorem N0K(b:j1)(e:wf j6 b){i:Nat}(h:NetOk b i)(m:Int):Gx b (i:Int) m=some (Qn b i m):=by
 have hi:=h.lt;have u:=e.2.2.1;have d:=h.sn;have w:=h.s78;obtain⟨q,o⟩:=h.delays;have j:((i:Int)).toNat=i:=rfl;unfold Gx;rw[L0g b e h,vS,gP ⟨rfl,trivial⟩,lE];unfold Qn;rw[<- d];refine lF (n:=(j3 b i).2.2.2.length) (by omega) (fun(k:Nat) (s:List Int)=>((k:Int),s)) (AI fun k=>p7 ((A7 b i).getD (r9 b i k).toNat 0) 1000 m) (fun k s=>s.length=k) (J:=fun s=>some s) (F:=XM (A7 b i) b (i:Int) m) (fun g k s a c=>?_) (fun k s a c=>?_) (fun g s _=>?_) [] rfl
 ·have l:((k:Int)).toNat=k:=rfl;have t:0<=(b.2.2.getD i (a7 y172)).2.2.2.getD k 0/\((b.2.2.getD i (a7 y172)).2.2.2.getD k 0).toNat < (A7 b i).length:=by rw[q]; exact h.wf.snkIn k a
  have f:k < (b.2.2.getD i (a7 y172)).2.2.2.length:=a;have c:s.length=k:=c;have v:=o ((j3 b i).2.2.2.getD k 0).toNat;have r:=(U4 ((A7 b i).getD ((j3 b i).2.2.2.getD k 0).toNat 0) 1000 m (by omega) (by omega) (by decide)).2;refine(gP ⟨oo,trivial⟩).trans ?_;refine(if_pos (by grind)).trans ?_;rw[j,l,r,vS,gP ⟨oo,oo,⟨t.1,by omega⟩,by omega,rfl,⟨by grind,by grind⟩,trivial⟩,lE];exact gP ⟨oo,trivial⟩
 ·grind[AI,List.length_append]
 ·refine(gP ⟨oo,trivial⟩).trans ?_;exact aE
theorem u0d{b:j1}{i k:Nat}{m:Int}(a:k < (x9 b.2.1 i).length):(Qn b i m).getD k 0=p7 ((A7 b i).getD (r9 b i k).toNat 0) 1000 m:=MZ _ 0 _ k a
theorem u0c(b:j1)(i:Nat)(m:Int):(Qn b i m).length=(x9 b.2.1 i).length:=Hf _ _
end Go.Proofs.YtechodbafnmddaaGreatDoor
end
section
namespace Go.Proofs.Xd
open Go Go.Proofs Go.Proofs.Xl
def Ho(n:Int)(s:Int×Int):Int×Int:=if decide ((s.1+s.2+1).tdiv 2*(s.1+s.2+1).tdiv 2<=n)=true then((s.1+s.2+1).tdiv 2,s.2) else(s.1,(s.1+s.2+1).tdiv 2-1)
theorem u0O{F:(Int×Int->Option Int)->Int×Int->Option Int}{J:Int->Option Int}{n H:Int}(x:0<=n)(l:n < (H+1)*(H+1))(f:0<=H)(i:H<=3000000000)
  (t:∀g (s:Int×Int),0<=s.1->s.1<=s.2->s.2<=H->F g s=if decide (s.1<s.2)=true then g (Ho n s) else J s.1):∃r,Bx n r/\r<=H/\lp F (0,H)=J r:=by
 obtain⟨d,⟨q,i2,i3,i4,i5⟩,b,u⟩:=C0R (J:=fun s:Int×Int=>J s.1) (fun s=>(s.2-s.1).toNat) (fun s=>0<=s.1/\s.1<=s.2/\s.2<=H/\s.1*s.1<=n/\n < (s.2+1)*(s.2+1)) (fun s=>decide (s.1<s.2)) (Ho n)
  (fun g s c=>t g s c.1 c.2.1 c.2.2.1) (fun s c b=>by
    obtain⟨h,w,j,o,m⟩:=c;have b:=of_decide_eq_true b;obtain⟨v,y,k⟩:=UL h b;unfold Ho;rw[v];split
    ·rename_i a;have a:=of_decide_eq_true a;exact⟨⟨by show 0<=(s.1+s.2+1) / 2; omega,k,j,a,m⟩,by show(s.2-(s.1+s.2+1) / 2).toNat < (s.2-s.1).toNat; omega⟩
    ·rename_i a;have a:n < (s.1+s.2+1) / 2*((s.1+s.2+1) / 2):=by
      rw[dq] at a;omega
     refine⟨⟨h,by show s.1<=(s.1+s.2+1) / 2-1; omega,by show(s.1+s.2+1) / 2-1<=H; omega,o,?_⟩,by show((s.1+s.2+1) / 2-1-s.1).toNat < (s.2-s.1).toNat; omega⟩;show n < ((s.1+s.2+1) / 2-1+1)*((s.1+s.2+1) / 2-1+1);rw[Int.sub_add_cancel];exact a) (0,H) ⟨Int.le_refl _,f,Int.le_refl _,by show(0:Int)*0<=n; omega,l⟩ (by show(H-0).toNat<=_; omega)
 have b:=of_decide_eq_false b;have e:d.1=d.2:=by omega
 exact⟨d.1,⟨q,i4,by rw[e]; exact i5⟩,by omega,u⟩
theorem u0i{n R Z:Int}(h:Bx n R)(k:Bx (4*n) Z):(Z=2*R∨Z=2*R+1)/\(R*R=n->Z=2*R/\Z*Z=4*n)/\(R*R<n->(Z=2*R/\Z*Z<4*n)∨(Z=2*R+1/\Z*Z<4*n)):=by
 obtain⟨d,f,j⟩:=h;obtain⟨o,g,m⟩:=k;have a:(2*R)*(2*R)=4*(R*R):=by rw[Int.mul_assoc,<- Int.mul_assoc R 2 R,Int.mul_comm R 2,Int.mul_assoc 2 R R]; omega
 have l:(2*R+2)*(2*R+2)=4*((R+1)*(R+1)):=by
  rw[show 2*R+2=2*(R+1) by omega,Int.mul_assoc,<- Int.mul_assoc (R+1) 2 (R+1),Int.mul_comm (R+1) 2,Int.mul_assoc 2 (R+1) (R+1)]; omega
 have c:(2*R+1)*(2*R+1)=4*(R*R)+4*R+1:=by
  rw[Int.add_mul,Int.mul_add,a]; omega
 have e:2*R<Z+1:=q0F (by omega) (by omega);have i:Z<2*R+2:=q0F (by omega) (by omega);have hz:Z=2*R∨Z=2*R+1:=by omega
 refine⟨hz,fun b=>?_,fun b=>?_⟩
 ·rcases hz with rfl | rfl
  ·exact⟨rfl,by omega⟩
  ·omega
 ·rcases hz with rfl | rfl
  ·exact .inl ⟨rfl,by omega⟩
  ·exact .inr ⟨rfl,by omega⟩
theorem DN{a b:Int}(c:0<=a)(d:0<b):p7 a b 0=a / b:=by
 unfold p7;rw[Int.tdiv_eq_ediv_of_nonneg c,Int.tmod_eq_emod_of_nonneg c,if_neg,if_neg]
 ·simp
 ·have:=Int.emod_nonneg a (Int.ne_of_gt d);simp;omega
theorem By{a b:Int}(c:0<=a)(_:0<b):p7 a b 1=if 0<a % b then a / b+1 else a / b:=by
 unfold p7;rw[Int.tdiv_eq_ediv_of_nonneg c,Int.tmod_eq_emod_of_nonneg c,if_neg (by simp)];by_cases h:0<a % b
 ·rw[if_pos h,if_pos (by simp[h])]
 ·rw[if_neg h,if_neg (by simp[h])]
def P0(n m R:Int):Int:=if(m==1&&decide (R*R<n))=true then R.tdiv 500+1 else p7 R 500 m
def DO(N m Z:Int):Int:=if(m==1&&decide (Z*Z<N))=true then Z+1 else Z
theorem w0y{n R Z m:Int}(h:Bx n R)(k:Bx (4*n) Z)(c:m=0∨m=1):P0 n m R=p7 (DO (4*n) m Z) 1000 m:=by
 obtain⟨i,g,f⟩:=u0i h k;have a:=h.1;have d:=h.2.1;unfold P0 DO;rcases c with rfl | rfl
 ·rw[if_neg (by simp),if_neg (by simp),DN a (by decide),DN k.1 (by decide)];omega
 ·by_cases b:R*R<n
  ·rw[if_pos (by simp[b]),Int.tdiv_eq_ediv_of_nonneg a];rcases f b with ⟨e,hz⟩ | ⟨e,hz⟩
   ·rw[if_pos (by simp[hz]),By (by omega) (by decide),e];split <;> omega
   ·rw[if_pos (by simp[hz]),By (by omega) (by decide),e];split <;> omega
  ·obtain⟨e,hz⟩:=g (by omega);rw[if_neg (by simp[b]),if_neg (by simp[hz]),By a (by decide),By k.1 (by decide),e];split <;> split <;> omega
end Go.Proofs.Xd
end
section
namespace Go.Proofs.YtechodbafnmddaaGreatDoor
open Go Go.Proofs Go.Proofs.Sv Go.Proofs.Xv Go.Proofs.Xl Go.Proofs.Xd
theorem p0U{q r:Int}(h:0<=q)(a:r=0∨r=1):(2*q+r).tdiv 2=q/\((2*q+r).tmod 2=0∨(2*q+r).tmod 2=1):=by
 grind
structure Nl(b:j1)(l:u0)(a:F5)(n:Nat):Prop where
 kind:l.2.2.1=1
 pix:ix (l.2.1.tdiv 2) (o3 b.2.1).length
 plt:(l.2.1.tdiv 2).toNat < (o3 b.2.1).length
 iix:ix (x7 b.2.1 (l.2.1.tdiv 2).toNat).1 b.2.1.1.length
 cix:ix (l5 b.2.1 (x7 b.2.1 (l.2.1.tdiv 2).toNat).1.toNat).2.1 b.1.length
 aix:ix l.2.2.2 (b.1.getD (l5 b.2.1 (x7 b.2.1 (l.2.1.tdiv 2).toNat).1.toNat).2.1.toNat (a7 y153)).2.2.2.1.length
 arc:(b.1.getD (l5 b.2.1 (x7 b.2.1 (l.2.1.tdiv 2).toNat).1.toNat).2.1.toNat (a7 y153)).2.2.2.1.getD l.2.2.2.toNat (a7 y158)=a
 net:(x7 b.2.1 (l.2.1.tdiv 2).toNat).2.2.1=(n:Int)
 nlt:n<b.2.2.length
 trs:l.2.1.tmod 2=0∨l.2.1.tmod 2=1
 del:H6 a.2.2.2.2.1 true=true
 slw:H6 a.2.2.2.2.2 true=true
structure I0f(b:j1)(l:u0)(n k:Nat):Prop where
 kind:l.2.2.1=2
 pix:ix (l.2.1.tdiv 2) (o3 b.2.1).length
 plt:(l.2.1.tdiv 2).toNat < (o3 b.2.1).length
 net:(x7 b.2.1 (l.2.1.tdiv 2).toNat).2.2.1=(n:Int)
 nlt:n<b.2.2.length
 idx:l.2.2.2=(k:Int)
 klt:k < (x9 b.2.1 n).length
theorem w0S{k s:Int}{t:Nat}(h:t < (J7 k s).length):(((J7 k s).getD t (0,0)).2=0∨((J7 k s).getD t (0,0)).2=1):=by
 grind[Qb,K7]
theorem Hp{b:j1}(F:u3 b=true){l:u0}(h:l∈lV b):(∃a n,Nl b l a n)∨∃n k,I0f b l n k:=by
 obtain⟨V,y,_⟩:=W4 F;have E:=U2 V;rcases u0X h with ⟨i,j,t,hi,x,v,rfl⟩ | ⟨i,k,t,hi,hk,v,rfl⟩
 ·obtain⟨G,z,x3⟩:=FP E hi;obtain⟨Y,c2,c3,H⟩:=FQ z;obtain⟨a1,a2,a3,W⟩:=H j x;obtain⟨B,P⟩:∃B:Nat,(k6 (u4 b i) j).2.2.1=(B:Int):=⟨(k6 (u4 b i) j).2.2.1.toNat,by omega⟩;have f:B < (l5 b.2.1 i).2.2.length:=by omega
  have lB:A2 (l5 b.2.1) i+B < (o3 b.2.1).length:=by
   have:=Nj (l5 b.2.1) hi f;unfold o3;rw[Ji]; omega
  have e:=Qk b.2.1.1.length b.2.1.2.2.length (l5 b.2.1) (B1 b.2.1) (a7 y235) hi f;have e:x7 b.2.1 (A2 (l5 b.2.1) i+B)=((i:Int),(B:Int),(l5 b.2.1 i).2.2.getD B 0,(B:Int)==((l5 b.2.1 i).2.2.length:Int)-1):=e;have X:=A4.1 (E.fac.net.1 i hi B f);obtain⟨n,u⟩:∃n:Nat,(l5 b.2.1 i).2.2.getD B 0=(n:Int):=⟨((l5 b.2.1 i).2.2.getD B 0).toNat,by omega⟩;have s:(k6 (u4 b i) j).1<=3:=by have:=r0D (Nat.lt_of_le_of_lt (Nat.zero_le _) v); omega
  obtain⟨_,T,Q⟩:=r0k (n0N z x) s;have g:=p0U (q:=((A2 (l5 b.2.1) i+B:Nat):Int)) (Int.natCast_nonneg _) (w0S v);have o:(Hm (A2 (l5 b.2.1) i:Int) (k6 (u4 b i) j) j t).2.1=2*((A2 (l5 b.2.1) i+B:Nat):Int)+((J7 (k6 (u4 b i) j).1 (k6 (u4 b i) j).2.2.2.1).getD t (0,0)).2:=by
   show 2*((A2 (l5 b.2.1) i:Int)+(k6 (u4 b i) j).2.2.1)+_=_;rw[P,Int.natCast_add]
  refine .inl ⟨k6 (u4 b i) j,n,?_⟩;have c:((Hm (A2 (l5 b.2.1) i:Int) (k6 (u4 b i) j) j t).2.1.tdiv 2)=((A2 (l5 b.2.1) i+B:Nat):Int):=by rw[o]; exact g.1
  have m:((A2 (l5 b.2.1) i+B:Nat):Int).toNat=A2 (l5 b.2.1) i+B:=rfl;refine⟨rfl,?_,?_,?_,?_,?_,?_,?_,by omega,by rw[o]; omega,T,Q⟩
  ·rw[c]; exact oo
  ·omega
  ·rw[c,m,e]; exact⟨Int.natCast_nonneg _,by omega⟩
  ·rw[c,m,e]; exact G
  ·rw[c,m,e]; exact⟨Int.natCast_nonneg _,by show(j:Int) < ((u4 b i).2.2.2.1.length:Int); omega⟩
  ·rw[c,m,e]; rfl
  ·rw[c,m,e]; exact u
 ·obtain⟨q,w,h2,h3,_⟩:=Qa (x7 b.2.1) i (o3 b.2.1).length _ (K7 (d:=0) hk);have w:(x9 b.2.1 i).getD k 0=(q:Int):=w;have o:(DL (K4 b i) ((x9 b.2.1 i).getD k 0) k t).2.1=2*(q:Int)+(t:Int):=by
   show 2*(x9 b.2.1 i).getD k 0+_=_;rw[w]
  have g:=p0U (q:=(q:Int)) (r:=(t:Int)) (Int.natCast_nonneg _) (by omega);have c:((DL (K4 b i) ((x9 b.2.1 i).getD k 0) k t).2.1.tdiv 2)=(q:Int):=by rw[o]; exact g.1
  have m:((q:Int)).toNat=q:=rfl;refine .inr ⟨i,k,rfl,?_,?_,?_,hi,rfl,hk⟩
  ·rw[c]; exact oo
  ·omega
  grind
theorem CU{l:List DE}{p:Bool}(h:H6 l p=true){x:Int}(b:x=0∨x=1):ix x l.length/\C5 (l.getD x.toNat (a7 y269))=true:=by
 unfold H6 at h;rw[ba,dq] at h;have a:x.toNat<l.length:=by omega
 refine⟨oo,?_⟩
 grind
section
variable {b:j1}
theorem Hq{l:u0}{a:F5}{n:Nat}(h:Nl b l a n):BV (j9 b) l=some a:=by
 unfold BV;refine(gP ⟨by decide,h.pix,h.iix,trivial⟩).trans ?_;rw[lE];refine(gP ⟨h.cix,h.aix,trivial⟩).trans ?_;rw[lE];exact congrArg some h.arc
theorem Y8{l:u0}{n:Nat}(c:ix (l.2.1.tdiv 2) (o3 b.2.1).length)(a:(x7 b.2.1 (l.2.1.tdiv 2).toNat).2.2.1=(n:Int)):CG (j9 b) l=some (n:Int):=by
 unfold CG;refine(gP ⟨by decide,c,trivial⟩).trans ?_;rw[lE];exact congrArg some a
theorem L0l(e:wf j6 b)(f:u3 b=true){l:u0}{a:F5}{n:Nat}(h:Nl b l a n):Gv b l=some (a,(A3 b n).getD 0 0):=by
 have c:=U2 (W4 f).1;have d:=Bv f h.nlt;have n1:=d.wf.n1;have g:=d.loads.1;unfold Gv;rw[FN b.2.1 e.2.1 c.fac.ni14 c.fac.np8 c.pin,vS,gP ⟨rfl,by decide,h.pix,h.plt,trivial⟩,lE];show gd (ix (x7 b.2.1 (l.2.1.tdiv 2).toNat).1 b.2.1.1.length/\ix (l5 b.2.1 (x7 b.2.1 (l.2.1.tdiv 2).toNat).1.toNat).2.1 b.1.length/\ix l.2.2.2 (b.1.getD (l5 b.2.1 (x7 b.2.1 (l.2.1.tdiv 2).toNat).1.toNat).2.1.toNat (a7 y153)).2.2.2.1.length/\(As b (x7 b.2.1 (l.2.1.tdiv 2).toNat).2.2.1).isSome=true/\ix (0:Int) (vl (As b (x7 b.2.1 (l.2.1.tdiv 2).toNat).2.2.1)).length/\Int.toNat (0:Int) < (vl (As b (x7 b.2.1 (l.2.1.tdiv 2).toNat).2.2.1)).length/\True) (lt (vl (As b (x7 b.2.1 (l.2.1.tdiv 2).toNat).2.2.1),(b.1.getD (l5 b.2.1 (x7 b.2.1 (l.2.1.tdiv 2).toNat).1.toNat).2.1.toNat (a7 y153)).2.2.2.1.getD l.2.2.2.toNat (a7 y158)) fun x=>match x with | (v2,v3)=>some (v3,v2.getD (Int.toNat (0:Int)) (0:Int)))=_;rw[h.net,L0h b e d,vS,gP ⟨h.iix,h.cix,h.aix,rfl,⟨by decide,by omega⟩,by omega,trivial⟩,lE,h.arc];rfl
theorem L0k(c:wf j6 b)(d:u3 b=true){l:u0}{n k:Nat}(h:I0f b l n k):BP b l=some (n:Int):=by
 have a:=U2 (W4 d).1;unfold BP;rw[FN b.2.1 c.2.1 a.fac.ni14 a.fac.np8 a.pin,vS,gP ⟨rfl,by decide,h.pix,h.plt,trivial⟩,lE];exact congrArg some h.net
end
theorem UM{n:Int}(e:0<=n)(k:n<=1000000000000000000):∃r,Bx n r/\r<=3000000000/\LV n=some r:=by
 unfold LV;refine u0O (J:=fun r=>some r) (n:=n) (H:=3000000000) e (by omega) (by decide) (by decide) (fun g s b c d=>?_);obtain⟨lo,hi⟩:=s;have b:0<=lo:=b;have c:lo<=hi:=c;have d:hi<=3000000000:=d;show SL n g (lo,hi)=if decide (lo<hi)=true then g (Ho n (lo,hi)) else some lo
 rw[SL];by_cases a:lo<hi
 ·obtain⟨f,i,j⟩:=UL b a;have h:=K8 (A:=3000000000) (B:=3000000000) (x:=(lo+hi+1).tdiv 2) (y:=(lo+hi+1).tdiv 2) (by omega) (by omega) (by omega) (by omega) (by decide);rw[if_pos (decide_eq_true a),if_pos (decide_eq_true a),gP ⟨oo,oo,by decide,trivial⟩,gP ⟨oo,trivial⟩];unfold Ho;show(if _ then _ else _)=g (if decide ((lo+hi+1).tdiv 2*(lo+hi+1).tdiv 2<=n)=true then((lo+hi+1).tdiv 2,hi) else(lo,(lo+hi+1).tdiv 2-1));split
  ·rfl
  ·exact gP ⟨oo,trivial⟩
 ·rw[if_neg (by grind),if_neg (by grind)];rfl
theorem N0x{n m:Int}(i:0<=n)(u:n<=2000000000000000000)(_:m=0∨m=1):∃r,Bx n r/\r<=2000000000/\CC n m=some (DO n m r):=by
 unfold CC;obtain⟨r,d,c,k⟩:=u0O (J:=fun r=>KD m n r) (F:=Om n m) (n:=n) (H:=2000000000) i (by omega) (by decide) (by decide) (fun g s b e f=>by
  obtain⟨lo,hi⟩:=s;have b:0<=lo:=b;have e:lo<=hi:=e;have f:hi<=2000000000:=f;show Om n m g (lo,hi)=if decide (lo<hi)=true then g (Ho n (lo,hi)) else KD m n lo
  rw[Om];by_cases a:lo<hi
  ·obtain⟨l,t,q⟩:=UL b a;have o:=K8 (A:=3000000000) (B:=3000000000) (x:=(lo+hi+1).tdiv 2) (y:=(lo+hi+1).tdiv 2) (by omega) (by omega) (by omega) (by omega) (by decide);rw[if_pos (decide_eq_true a),if_pos (decide_eq_true a),gP ⟨oo,oo,by decide,trivial⟩,gP ⟨oo,trivial⟩];unfold Ho;show(if _ then _ else _)=g (if decide ((lo+hi+1).tdiv 2*(lo+hi+1).tdiv 2<=n)=true then((lo+hi+1).tdiv 2,hi) else(lo,(lo+hi+1).tdiv 2-1));split
   ·rfl
   ·exact gP ⟨oo,trivial⟩
  grind)
 refine⟨r,d,c,k.trans ?_⟩;have j:=d.1;have h:=K8 (A:=2000000000) (B:=2000000000) (x:=r) (y:=r) (by omega) (by omega) (by omega) (by omega) (by decide);rw[KD,gP ⟨(fun _=>oo),trivial⟩];unfold DO;split
 ·rw[gP ⟨oo,trivial⟩]; rfl
 ·rfl
theorem Qo(s d:Int):500*s*500*s=250000*(s*s)/\1000000*s*s=1000000*(s*s)/\4*d*d=4*(d*d):=by
 grind
theorem J0S{s d m:Int}(j:0<=s)(X:s<=1000000)(g:0<=d)(Q:d<=301000000)(f:m=0∨m=1):∃r z,V0 s d m=some r/\CC (1000000*s*s+4*d*d) m=some z/\U9 z 1000 m=some r/\0<=r/\r<=3000000001:=by
 obtain⟨G,W,V⟩:=Qo s d;have T:=K8 (A:=1000000) (B:=1000000) (x:=s) (y:=s) (by omega) (by omega) (by omega) (by omega) (by decide);have Y:=K8 (A:=301000000) (B:=301000000) (x:=d) (y:=d) (by omega) (by omega) (by omega) (by omega) (by decide);have u:0<=s*s:=Int.mul_nonneg j j;have w:0<=d*d:=Int.mul_nonneg g g;obtain⟨R,i,k,v⟩:=UM (n:=250000*(s*s)+d*d) (by omega) (by omega);obtain⟨Z,h,q,t⟩:=N0x (n:=4*(250000*(s*s)+d*d)) (m:=m) (by omega) (by omega) f;have c:=i.1;have o:=h.1;have l:=w0y i h f;have E:1000000*s*s+4*d*d=4*(250000*(s*s)+d*d):=by omega
 have H:0<=DO (4*(250000*(s*s)+d*d)) m Z/\DO (4*(250000*(s*s)+d*d)) m Z<=3000000000:=by
  unfold DO;split <;> omega
 have F:=FR (a:=DO (4*(250000*(s*s)+d*d)) m Z) (b:=1000) (K:=3000000) m (by decide) (by omega) (by omega);have P:=K8 (A:=3000000000) (B:=3000000000) (x:=R) (y:=R) (by omega) (by omega) (by omega) (by omega) (by decide);have e:0<=P0 (250000*(s*s)+d*d) m R:=by
  unfold P0;rcases f with rfl | rfl
  ·rw[if_neg (by simp),DN c (by decide)]; omega
  ·split
   ·rw[Int.tdiv_eq_ediv_of_nonneg c]; omega
   ·rw[By c (by decide)]; split <;> omega
 refine⟨P0 (250000*(s*s)+d*d) m R,DO (4*(250000*(s*s)+d*d)) m Z,?_,by rw[E]; exact t,?_,e,by omega⟩
 ·unfold V0;rw[G,v,vS,gP ⟨oo,oo,oo,oo,oo,trivial⟩,gP ⟨rfl,trivial⟩,lE,gP ⟨(fun _=>oo),trivial⟩];unfold P0;split
  ·have:R.tdiv 500=R / 500:=Int.tdiv_eq_ediv_of_nonneg c;exact gP ⟨by decide,oo,trivial⟩
  ·rw[(U4 R 500 m (by omega) (by omega) (by decide)).1,vS,gP ⟨rfl,trivial⟩,lE]
 ·rw[l];exact(U4 _ 1000 m (by omega) (by omega) (by decide)).2
end Go.Proofs.YtechodbafnmddaaGreatDoor
end
section
namespace Go.Proofs.YtechodbafnmddaaGreatDoor
open Go Go.Proofs Go.Proofs.Xv Go.Proofs.Xl Go.Proofs.Xd
theorem N0k(a b:Int):LW a b=some (decide (a<b)):=by
 unfold LW;have e:∀a,GH a=some (a != a):=fun _=>rfl;rw[e,e,gP ⟨rfl,fun _=>rfl,trivial⟩,vS,vS];simp
theorem Nn{xs:List Int}{x:Int}(w:xs.length<=4611686018427387903){p:Nat}(r:p<xs.length)(v:∀i,i<p->xs.getD i 0<x)(u:∀i,p<=i->i<xs.length->x<=xs.getD i 0):LY xs x=some ((p:Int),xs.getD p 0==x):=by
 have l:∀(m i j:Nat),i<=p->p<=j->j<=xs.length->j-i<m->I0 (LX xs x) m ((i:Int),(j:Int))=some ((p:Int),xs.getD p 0==x):=by
  intro m
  induction m with
  | zero=>intro i j _ _ _ h; omega
  | succ m o =>
    intro i j hi t g y;show LX xs x (I0 (LX xs x) m) ((i:Int),(j:Int))=_;rw[LX];by_cases f:i<j
    ·have d:(i+j) / 2<xs.length:=by omega
     have k:((((i+j) / 2:Nat)):Int).toNat=(i+j) / 2:=rfl;rw[if_pos (by simpa using f),C0L,gP ⟨oo,oo,⟨⟨by decide,by decide⟩,by omega,by omega⟩,oo,trivial⟩,k,N0k,gP ⟨oo,rfl,trivial⟩,vS];by_cases n:xs.getD ((i+j) / 2) 0<x
     ·rw[if_pos (by simpa using n),gP ⟨oo,trivial⟩];have c:(i+j) / 2<p:=by
       apply Nat.lt_of_not_le;intro b;have:=u _ b d; omega
      have:=o ((i+j) / 2+1) j (by omega) t g (by omega);simpa using this
     ·rw[if_neg (by simpa using n)];have c:p<=(i+j) / 2:=by
       apply Nat.le_of_not_lt;intro b;have:=v _ b; omega
      exact o i ((i+j) / 2) hi c (by omega) (by omega)
    ·have e:i=p:=by omega
     subst e;rw[if_neg (by simpa using f),SM];have k:((i:Int)).toNat=i:=rfl;have s:decide ((i:Int) < (xs.length:Int))=true:=by simpa using r
     have q:∀a,GG a=some (a != a):=fun _=>rfl;rw[k,s,q,q,gP ⟨fun _=>oo,fun _=>oo,fun _=>rfl,fun _=>rfl,trivial⟩,vS,vS];simp
 unfold LY;have:=l O9 0 xs.length (by omega) (by omega) (Nat.le_refl _) (by simp only[O9]; omega);exact this
def A5(xs:List Int)(x:Int):Int:=min (max x (xs.getD 0 0)) (xs.getD (xs.length-1) 0)
theorem N0v{xs:List Int}(x:Int)(h:H5 xs=true):∃(p:Nat) (a b:Int),p<xs.length/\Dr xs x=some ((p:Int),a,b) /\
  ((a=1/\b=0/\P2 xs x=some ([((p:Int),1)],1)) ∨
    (p+1<xs.length/\0<a/\0<b/\a+b<=100000/\P2 xs x=some ([((p:Int),a),((p:Int)+1,b)],a+b))):=by
 obtain⟨l1,l4⟩:=CO h;have o:((xs.length:Int)-1).toNat=xs.length-1:=by omega
 have X:xs.getD 0 0<=A5 xs x:=by
  have:xs.getD 0 0<=xs.getD (xs.length-1) 0:=by
   by_cases l:xs.length=1
   ·rw[l]; exact Int.le_refl _
   ·have:=CT h (by omega:0<xs.length-1) (by omega); omega
  unfold A5; omega
 have F:A5 xs x<=xs.getD (xs.length-1) 0:=by unfold A5; omega
 obtain⟨p,d,E,z⟩:=v0O h X F;have c:∀(q:Nat) (r:Option (Int×Int×Int)),(∀g,Dq xs (A5 xs x) g (q:Int)=r)->(∀i,q<i->i<xs.length->A5 xs x<xs.getD i 0)->q<xs.length->lp (Dq xs (A5 xs x)) ((xs.length:Int)-1)=r:=by
  intro q r y e f;have s:∀(m k:Nat),q+k<xs.length->k<m->I0 (Dq xs (A5 xs x)) m ((q+k:Nat):Int)=r:=by
   intro m
   induction m with
   | zero=>intro k _ h; omega
   | succ m G =>
     intro k P hm;show Dq xs (A5 xs x) (I0 (Dq xs (A5 xs x)) m) ((q+k:Nat):Int)=r;by_cases w:k=0
     ·subst w; exact y _
     ·have hg:=e (q+k) (by omega) P;have j:(((q+k:Nat):Int)).toNat=q+k:=rfl;have v:¬(A5 xs x=xs.getD (q+k) 0):=by omega
      have T:¬(xs.getD (q+k) 0<A5 xs x):=by omega
      rw[Dq,if_pos (by simp; omega),gP ⟨oo,trivial⟩,j,if_neg (by simpa using v),gP ⟨oo,trivial⟩,if_neg (by simpa using T),gP ⟨oo,trivial⟩];have V:(((q+k:Nat):Int))-1=((q+(k-1):Nat):Int):=by omega
      rw[V];exact G (k-1) (by omega) (by omega)
  have:=s O9 (xs.length-1-q) (by omega) (by simp only[O9]; omega);have Q:((q+(xs.length-1-q):Nat):Int)=(xs.length:Int)-1:=by omega
  rw[Q] at this;exact this
 have j:∀n:Nat,((n:Int)).toNat=n:=fun _=>rfl;by_cases t:xs.getD p 0=A5 xs x
 ·refine⟨p,1,0,d,?_,.inl ⟨rfl,rfl,?_⟩⟩
  ·unfold Dr;rw[gP ⟨oo,trivial⟩,gP ⟨oo,oo,trivial⟩,o];change lt (A5 xs x) _=_;rw[lE,gP ⟨oo,trivial⟩];refine c p _ (fun g=>?_) (fun i hi l=>?_) d
   ·rw[Dq,if_pos (by simp),gP ⟨oo,trivial⟩,j,if_pos (by simpa using t.symm)]
   ·have:=CT h hi l; omega
  ·unfold P2;rw[gP ⟨oo,oo,oo,trivial⟩,o];change lt (A5 xs x) _=_;rw[lE,Nn (by omega) d E z,gP ⟨rfl,trivial⟩,vS,lE,if_pos (by simpa using t)]
 ·have e:A5 xs x<xs.getD p 0:=by have:=z p (Nat.le_refl _) d; omega
  have H:0<p:=by
   apply Nat.pos_of_ne_zero;intro w; subst w; omega
  obtain⟨q,rfl⟩:∃q,p=q+1:=⟨p-1,by omega⟩;have f:=E q (by omega);have b1:=Nk h d;have Y:=Nk h (by omega:q<xs.length);refine⟨q,xs.getD (q+1) 0-A5 xs x,A5 xs x-xs.getD q 0,by omega,?_,.inr ⟨d,by omega,by omega,by omega,?_⟩⟩
  ·unfold Dr;rw[gP ⟨oo,trivial⟩,gP ⟨oo,oo,trivial⟩,o];change lt (A5 xs x) _=_;rw[lE,gP ⟨oo,trivial⟩];refine c q _ (fun g=>?_) (fun i hi l=>?_) (by omega)
   ·have u:((q:Int)+1).toNat=q+1:=by omega
    have v:¬(A5 xs x=xs.getD q 0):=by omega
    rw[Dq,if_pos (by simp),gP ⟨oo,trivial⟩,j,if_neg (by simpa using v),gP ⟨oo,trivial⟩,if_pos (by simpa using f),u,gP ⟨oo,oo,oo,oo,oo,trivial⟩]
   ·by_cases y:i=q+1
    ·subst y; exact e
    ·have:=CT h (by omega:q+1<i) l; omega
  ·have u:(((q+1:Nat):Int)-1).toNat=q:=by omega
   have W:((q+1:Nat):Int)-1=(q:Int):=by omega
   unfold P2;rw[gP ⟨oo,oo,oo,trivial⟩,o];change lt (A5 xs x) _=_;rw[lE,Nn (by omega) d E z,gP ⟨rfl,trivial⟩,vS,lE,if_neg (by simpa using t),u,j,gP ⟨oo,oo,oo,oo,oo,oo,oo,oo,oo,oo,trivial⟩,lE,W];congr 2;omega
def J8(t:o5)(r q:Nat):Int:=t.2.2.getD (r*t.2.1.length+q) 0
def l8(t:o5)(r q:Nat)(w c d:Int):Int:=J8 t r q*w*c+J8 t r (q+1)*w*d
theorem Hr{t:o5}(a:C5 t=true){r q:Nat}(j:r<t.1.length)(e:q<t.2.1.length){w c:Int}(f:0<=w)(d:w<=100000)(g:0<=c)(b:c<=100000) :
  (-100000000000<=J8 t r q*w/\J8 t r q*w<=100000000000) /\ -10000000000000000<=J8 t r q*w*c/\J8 t r q*w*c<=10000000000000000:=by
 obtain⟨_,_,_,_,l,_,_⟩:=FJ a;have h:=p0V a (i:=r*t.2.1.length+q) (by have:=Qm j e; omega);have k:=K8 (A:=1000000) h.1 h.2 f d (by decide);have m:=K8 (A:=100000000000) (B:=100000) (x:=J8 t r q*w) (by grind[J8]) (by grind[J8]) g b (by decide)
 grind[J8]
def Sh(n q:Nat)(c d:Int)(M:List (Int×Int)):Prop:=(c=1/\d=0/\M=[((q:Int),1)])∨(q+1<n/\0<c/\0<d/\c+d<=100000/\M=[((q:Int),c),((q:Int)+1,d)])
theorem u0h{t:o5}(e:C5 t=true){r q:Nat}(f:r<t.1.length)(g:q<t.2.1.length){w c d:Int}{M:List (Int×Int)}(h:Sh t.2.1.length q c d M)(b:0<=w)(a:w<=100000) : -20000000000000000<=l8 t r q w c d/\l8 t r q w c d<=20000000000000000:=by
 unfold l8;rcases h with ⟨rfl,rfl,_⟩ | ⟨hq1,c0,d0,hcd,_⟩
 ·have i:=(Hr e f g b a (c:=1) (by decide) (by decide)).2;rw[Int.mul_zero]; omega
 ·have i:=(Hr e f g b a (c:=c) (by omega) (by omega)).2;have j:=(Hr e f hq1 b a (c:=d) (by omega) (by omega)).2;omega
theorem UN{t:o5}(e:C5 t=true){r q:Nat}(f:r<t.1.length)(d:q<t.2.1.length){w c:Int}(m:0<=w)(x:w<=100000)(E:0<=c)(g:c<=100000){R:Int}(v:R=(r:Int)){v1:List BU×Int}{v11:Int}{u a:Int×Int->Option Int}{s:Int}(P : -100000000000000000<=s)(H:s<=100000000000000000){i:Nat}(hi:i<v1.1.length)(G:v1.1.length<=2)
  {Q:Int} (l:Q=(q:Int)) (y:v1.1.getD i (a7 S9)=(Q,c)):Iz t (R,w) v1 v11 u a (s,(i:Int))=a (s+J8 t r q*w*c,(i:Int)+1):=by
 subst v; subst l;obtain⟨_,F,_,V,T,_,n⟩:=FJ e;have k:=Qm f d;have h:=Hr e f d m x E g;have z:((i:Int)).toNat=i:=rfl;have j:(r:Int)*(t.2.1.length:Int)=((r*t.2.1.length:Nat):Int):=by simp
 have o:(((r*t.2.1.length:Nat):Int)+(q:Int)).toNat=r*t.2.1.length+q:=by omega
 rw[Iz,if_pos (by grind),z,gP ⟨oo,hi,trivial⟩,lE,y];unfold J8 at h ⊢;show gd (b9 ((r:Int)*(t.2.1.length:Int))/\b9 ((r:Int)*(t.2.1.length:Int)+(q:Int))/\ix ((r:Int)*(t.2.1.length:Int)+(q:Int)) t.2.2.length/\b9 (t.2.2.getD ((r:Int)*(t.2.1.length:Int)+(q:Int)).toNat 0*w)/\b9 (t.2.2.getD ((r:Int)*(t.2.1.length:Int)+(q:Int)).toNat 0*w*c)/\b9 (s+t.2.2.getD ((r:Int)*(t.2.1.length:Int)+(q:Int)).toNat 0*w*c)/\True) (lt (s+t.2.2.getD ((r:Int)*(t.2.1.length:Int)+(q:Int)).toNat 0*w*c) fun b=>gd _ (a (b,(i:Int)+1)))=_;rw[j,o,gP ⟨oo,oo,oo,oo,oo,oo,trivial⟩,lE,gP ⟨oo,trivial⟩]
theorem H0z{t:o5}{a:BU}{v1:List BU×Int}{v11:Nat}(d:v11<=2){b c:Int×Int->Option Int}{s:Int}:Iz t a v1 (v11:Int) b c (s,(v1.1.length:Int))=b (s,(v11:Int)+1):=by
 rw[Iz,if_neg (by simp),SO,gP ⟨oo,trivial⟩]
theorem P1{a b:Type}{F:(a->Option b)->a->Option b}{n:Nat}{s:a}:I0 F (n+1) s=F (I0 F n) s:=rfl
theorem Hs:((0:Nat):Int)+1=((1:Nat):Int):=rfl
theorem Ht:((1:Nat):Int)+1=((2:Nat):Int):=rfl
theorem UO{t:o5}(e:C5 t=true){r q:Nat}(f:r<t.1.length)(h:q<t.2.1.length){w c d:Int}{M:List (Int×Int)}(l:Sh t.2.1.length q c d M)(b:0<=w)(a:w<=100000){R T:Int}(g:R=(r:Int)){v11:Nat}(k:v11<=2){j:Int×Int->Option Int}{s:Int}(u : -50000000000000000<=s)(o:s<=50000000000000000) :
  lp (Iz t (R,w) (M,T) (v11:Int) j) (s,0)=j (s+l8 t r q w c d,(v11:Int)+1):=by
 unfold l8;rcases l with ⟨rfl,rfl,rfl⟩ | ⟨hq1,c0,d0,hcd,rfl⟩
 ·refine Ck 2 (by decide) fun n=>?_;rw[P1];refine(UN (v1:=([((q:Int),1)],T)) (i:=0) (s:=s) (c:=1) e f h b a (by decide) (by decide) g (by omega) (by omega) (Nat.le_refl 1) (Nat.le_succ 1) rfl rfl).trans ?_;rw[Int.mul_zero,Int.add_zero,P1,Hs];exact H0z (v1:=([((q:Int),1)],T)) k
 ·have m:=(Hr e f h b a (c:=c) (by omega) (by omega)).2;refine Ck 3 (by decide) fun n=>?_;rw[P1];refine(UN (v1:=([((q:Int),c),((q:Int)+1,d)],T)) (i:=0) (s:=s) (c:=c) e f h b a (by omega) (by omega) g (by omega) (by omega) (Nat.le_succ 1) (Nat.le_refl 2) rfl rfl).trans ?_;rw[P1,Hs];refine(UN (v1:=([((q:Int),c),((q:Int)+1,d)],T)) (i:=1) (s:=s+J8 t r q*w*c) (c:=d) (q:=q+1) e f hq1 b a (by omega) (by omega) g (by omega) (by omega) (Nat.le_refl 2) (Nat.le_refl 2) (Int.natCast_succ q).symm rfl).trans ?_;rw[<- Int.add_assoc,P1,Ht];exact H0z (v1:=([((q:Int),c),((q:Int)+1,d)],T)) k
theorem B0c{t:o5}(j:C5 t=true){p u r q k:Nat}(b:r=p+u)(i:r<t.1.length)(h:q<t.2.1.length){w c W:Int}(f:0<=w)(F:w<=100000)(g:0<=c)(l:c<=100000)(V:W=w*c){e v1:Int×Int×Int}(H:e.1=(p:Int)){q0:Nat}(P:v1.1=(q0:Int))(x:q=q0+k)(E:k<=1)(hu:u<=1){d:Int×Int->Option Int}{s:Int}(Y : -100000000000000000<=s)(X:s<=100000000000000000) :
  Ds (k:Int) s t e (u:Int) v1 d W=d (s+J8 t r q*w*c,(k:Int)+1):=by
 obtain⟨_,Q,_,b4,hl,_,y⟩:=FJ j;have v:=Qm i h;have m:=Hr j i h f F g l;subst b; subst x;have n:((p:Int)+(u:Int))*(t.2.1.length:Int)=(((p+u)*t.2.1.length:Nat):Int):=by simp
 have z:((((p+u)*t.2.1.length:Nat):Int)+(q0:Int)+(k:Int)).toNat=(p+u)*t.2.1.length+(q0+k):=by omega
 have a:W*J8 t (p+u) (q0+k)=J8 t (p+u) (q0+k)*w*c:=by grind
 rw[Ds];by_cases T:0<W
 ·unfold J8 at m a ⊢;rw[if_pos (by grind),H,P,n,z,a,gP ⟨oo,oo,oo,oo,oo,oo,oo,trivial⟩,lE,Ij,gP ⟨oo,trivial⟩]
 ·have G:W=0:=by
   have:0<=w*c:=Int.mul_nonneg f g;omega
  have o:J8 t (p+u) (q0+k)*w*c=0:=by grind
  rw[if_neg (by grind),Ij,gP ⟨oo,trivial⟩,o,Int.add_zero]
theorem UP{t:o5}{u k:Nat}{d v1:Int×Int×Int}(c:k<=1){a:Int×Int->Option Int}{s W:Int}(b:W=0):Ds (k:Int) s t d (u:Int) v1 a W=a (s,(k:Int)+1):=by
 subst b;rw[Ds,if_neg (by simp),Ij,gP ⟨oo,trivial⟩]
theorem B0t{w c:Int}(e:0<=w)(d:w<=100000)(a:0<=c)(b:c<=100000):b9 (w*c)/\True:=by
 have:=K8 (A:=100000) (B:=100000) (x:=w) (y:=c) (by omega) d a b (by decide);exact⟨oo,trivial⟩
theorem Qp{t:o5}{u k:Nat}(o:k<=1){a v1:Int×Int×Int}{l b:Int×Int->Option Int}{s w e:Int}(q:(if(u:Int)=1 then a.2.2 else a.2.1)=w)(c:(if k=0 then v1.2.1 else v1.2.2)=e)(i:0<=w)(h:w<=100000)(j:0<=e)(f:e<=100000) :
  Gu t a (u:Int) v1 l b (s,(k:Int))=Ds (k:Int) s t a (u:Int) v1 b (w*e):=by
 have n:∀W,W=w->KG (k:Int) s t a (u:Int) v1 b W=Ds (k:Int) s t a (u:Int) v1 b (w*e):=by
  intro W m;subst m;rw[KG];by_cases g:k=0
  ·subst g;have d:v1.2.1=e:=c;rw[if_pos (by rfl),d,gP (B0t i h j f)]
  ·rw[if_neg g] at c;rw[if_neg (by grind),c,gP (B0t i h j f)]
 grind[Gu]
theorem UQ{t:o5}{u:Nat}(d:u<=1){b v1:Int×Int×Int}{a c:Int×Int->Option Int}{s:Int}:Gu t b (u:Int) v1 a c (s,((2:Nat):Int))=a (s,(u:Int)+1):=by
 rw[Gu,if_neg (by simp),Sr,gP ⟨oo,trivial⟩]
theorem B0b{t:o5}(m:C5 t=true){p u r q:Nat}(h:r=p+u)(o:u<=1)(l:r<t.1.length)(G:q<t.2.1.length){a b w c d:Int}{M:List (Int×Int)}(E:Sh t.2.1.length q c d M)(F:(if(u:Int)=1 then b else a)=w)(g:0<=w)(f:w<=100000){x:Int×Int->Option Int}{s:Int}(Q : -50000000000000000<=s)(P:s<=50000000000000000) :
  lp (Gu t ((p:Int),a,b) (u:Int) ((q:Int),c,d) x) (s,0)=x (s+l8 t r q w c d,(u:Int)+1):=by
 have v:0<=c/\c<=100000/\0<=d/\d<=100000:=by
  rcases E with ⟨rfl,rfl,_⟩ | ⟨_,_,_,_,_⟩ <;> omega
 obtain⟨j,i,y,z⟩:=v;have H:=(Hr m l G g f j i).2;refine Ck 3 (by decide) fun n=>?_;rw[P1];refine(Qp (k:=0) (e:=c) (by decide) F rfl g f j i).trans ?_;refine(B0c m h l G g f j i rfl rfl (q0:=q) rfl (k:=0) rfl (by decide) o (by omega) (by omega)).trans ?_;rw[P1,Hs];refine(Qp (k:=1) (e:=d) (by decide) F rfl g f y z).trans ?_;unfold l8;rcases E with ⟨rfl,rfl,_⟩ | ⟨hq1,_,_,_,_⟩
 ·refine(UP (by decide) (Int.mul_zero w)).trans ?_;rw[P1,Ht,UQ o,Int.mul_zero,Int.add_zero]
 ·refine(B0c m h l hq1 g f y z rfl rfl (q0:=q) rfl (k:=1) rfl (by decide) o (by omega) (by omega)).trans ?_
  grind[P1,Ht,UQ,Int.add_assoc]
theorem G0Z{t:o5}{p u q:Nat}(m:u<=1){a b c d:Int}(g:(if(u:Int)=1 then b else a)=0)(l:0<=c)(j:c<=100000)(h:0<=d)(i:d<=100000){f:Int×Int->Option Int}{s:Int} :
  lp (Gu t ((p:Int),a,b) (u:Int) ((q:Int),c,d) f) (s,0)=f (s,(u:Int)+1):=by
 refine Ck 3 (by decide) fun n=>?_;rw[P1];refine(Qp (k:=0) (e:=c) (by decide) g rfl (by decide) (by decide) l j).trans ?_;refine(UP (by decide) (Int.zero_mul _)).trans ?_;rw[P1,Hs];refine(Qp (k:=1) (e:=d) (by decide) g rfl (by decide) (by decide) h i).trans ?_;refine(UP (by decide) (Int.zero_mul _)).trans ?_
 grind[P1,Ht,UQ]
theorem Hu{xs:List Int}(x:Int)(h:H5 xs=true):∃(p:Nat) (a b:Int) (L:List (Int×Int)),p<xs.length/\Sh xs.length p a b L/\Dr xs x=some ((p:Int),a,b)/\P2 xs x=some (L,a+b):=by
 obtain⟨p,a,b,d,e,f⟩:=N0v x h;rcases f with ⟨rfl,rfl,c⟩ | ⟨c,h4,h5,h6,h7⟩
 ·exact⟨p,1,0,_,d,.inl ⟨rfl,rfl,rfl⟩,e,c⟩
 ·exact⟨p,a,b,_,d,.inr ⟨c,h4,h5,h6,rfl⟩,e,h7⟩
theorem UR{t:o5}(g:C5 t=true){p q:Nat}(h:p<t.1.length)(f:q<t.2.1.length){a b c d:Int}{L M:List (Int×Int)}(i:Sh t.1.length p a b L)(e:Sh t.2.1.length q c d M)(T U m:Int) :
  lp (GI t (M,U) (L,T) m) (0,0)=Iy (L,T) (M,U) m (l8 t p q a c d+(if b=0 then 0 else l8 t (p+1) q b c d)):=by
 have j:∀n:Nat,((n:Int)).toNat=n:=fun _=>rfl;rcases i with ⟨rfl,rfl,rfl⟩ | ⟨hp1,a0,b0,hab,rfl⟩
 ·refine Ck 2 (by decide) fun n=>?_;rw[P1,GI,if_pos (by simp),gP ⟨⟨by decide,by simp⟩,by simp,trivial⟩,lE];refine(UO (v11:=0) g h f e (w:=1) (by decide) (by decide) rfl (by decide) (by decide) (by decide)).trans ?_;rw[P1,Hs,GI,if_neg (by simp),if_pos rfl,Int.zero_add,Int.add_zero]
 ·have k:=u0h g h f e (w:=a) (by omega) (by omega);refine Ck 3 (by decide) fun n=>?_;rw[P1,GI,if_pos (by simp),gP ⟨⟨by decide,by simp⟩,by simp,trivial⟩,lE];refine(UO (v11:=0) g h f e (w:=a) (by omega) (by omega) rfl (by decide) (by decide) (by decide)).trans ?_;rw[P1,Hs,GI,if_pos (by simp),gP ⟨⟨by decide,by simp⟩,by simp,trivial⟩,lE];refine(UO (v11:=1) g hp1 f e (w:=b) (by omega) (by omega) (Int.natCast_succ p).symm (by decide) (by omega) (by omega)).trans ?_;rw[P1,Ht,GI,if_neg (by simp),if_neg (by omega),Int.zero_add]
theorem H0a{t:o5}(i:C5 t=true){p q:Nat}(k:p<t.1.length)(g:q<t.2.1.length){a b c d:Int}{L M:List (Int×Int)}(E:Sh t.1.length p a b L)(e:Sh t.2.1.length q c d M)(m:Int) :
  lp (Ik t ((p:Int),a,b) ((q:Int),c,d) m) (0,0)=Ot ((p:Int),a,b) ((q:Int),c,d) m (l8 t p q a c d+(if b=0 then 0 else l8 t (p+1) q b c d)):=by
 have h:0<=a/\a<=100000/\0<=b/\b<=100000/\(b≠0->p+1<t.1.length):=by
  rcases E with ⟨rfl,rfl,_⟩ | ⟨_,_,_,_,_⟩ <;> omega
 obtain⟨l,o,F,y,f⟩:=h;have j:0<=c/\c<=100000/\0<=d/\d<=100000:=by
  rcases e with ⟨rfl,rfl,_⟩ | ⟨_,_,_,_,_⟩ <;> omega
 obtain⟨z,x,s,v⟩:=j;have G:=u0h i k g e l o;refine Ck 3 (by decide) fun n=>?_;rw[P1,Ik,if_pos (by simp)];refine(B0b (u:=0) (p:=p) (r:=p) (w:=a) i rfl (by decide) k g e rfl l o (by decide) (by decide)).trans ?_;rw[P1,Hs,Ik,if_pos (by simp)];by_cases hz:b=0
 ·subst hz;refine(G0Z (u:=1) (by decide) rfl z x s v).trans ?_;rw[P1,Ht,Ik,if_neg (by simp),if_pos rfl,Int.zero_add,Int.add_zero]
 ·refine(B0b (u:=1) (p:=p) (r:=p+1) (w:=b) i rfl (by decide) (f hz) g e rfl F y (by omega) (by omega)).trans ?_;rw[P1,Ht,Ik,if_neg (by simp),if_neg hz,Int.zero_add]
theorem B0z{t:o5}(a:C5 t=true){r q:Nat}(c:r<t.1.length)(b:q<t.2.1.length) : -1000000<=J8 t r q/\J8 t r q<=1000000:=by
 obtain⟨_,_,_,_,d,_,_⟩:=FJ a;exact p0V a (i:=r*t.2.1.length+q) (by have:=Qm c b; omega)
theorem US{v w c:Int}(f : -1000000<=v)(e:v<=1000000)(b:0<=w)(d:0<=c) : -(1000000*(w*c))<=v*w*c/\v*w*c<=1000000*(w*c):=by
 have a:0<=w*c:=Int.mul_nonneg b d;rw[Int.mul_assoc];refine⟨?_,Int.mul_le_mul_of_nonneg_right e a⟩;have:=Int.mul_le_mul_of_nonneg_right f a;rw[Int.neg_mul] at this;exact this
theorem Jj{t:o5}(f:C5 t=true){r q:Nat}(h:r<t.1.length)(j:q<t.2.1.length){w c d:Int}{M:List (Int×Int)}(i:Sh t.2.1.length q c d M)(b:0<=w) : -(1000000*(w*(c+d)))<=l8 t r q w c d/\l8 t r q w c d<=1000000*(w*(c+d)):=by
 unfold l8;have a:=B0z f h j;rcases i with ⟨rfl,rfl,_⟩ | ⟨hq1,c0,d0,hcd,_⟩
 ·have e:=US a.1 a.2 b (c:=1) (by decide);rw[Int.mul_zero,Int.add_zero,Int.add_zero]; exact e
 ·have g:=B0z f h hq1;have e:=US a.1 a.2 b (c:=c) (by omega);have k:=US g.1 g.2 b (c:=d) (by omega);rw[Int.mul_add w,Int.mul_add 1000000];omega
theorem Jk{t:o5}(f:C5 t=true)(s l m:Int):∃r,K6 t s l m=some r/\BQ t s l m=some r /\ -1000000<=r/\r<=1000000:=by
 have g:H5 t.1=true/\H5 t.2.1=true:=by
  simp only[C5,ba] at f;exact⟨f.1.1.1,f.1.1.2⟩
 obtain⟨p,a,b,L,n,o,P,H⟩:=Hu s g.1;obtain⟨q,c,d,M,i,h,G,E⟩:=Hu l g.2;have j:0<=a/\0<=b/\1<=a+b/\a+b<=100000/\a<=100000/\b<=100000/\(b≠0->p+1<t.1.length):=by
  rcases o with ⟨rfl,rfl,_⟩ | ⟨_,_,_,_,_⟩ <;> omega
 have F:1<=c+d/\c+d<=100000:=by
  rcases h with ⟨rfl,rfl,_⟩ | ⟨_,_,_,_,_⟩ <;> omega
 have W:=K8 (A:=100000) (B:=100000) (x:=a+b) (y:=c+d) (by omega) (by omega) (by omega) (by omega) (by decide);have e:0 < (a+b)*(c+d):=Int.mul_pos (by omega) (by omega);have T:=Jj f n i h (w:=a) (by omega);have V : -(1000000*(b*(c+d)))<=(if b=0 then 0 else l8 t (p+1) q b c d)/\(if b=0 then 0 else l8 t (p+1) q b c d)<=1000000*(b*(c+d)):=by
  by_cases hz:b=0
  ·rw[if_pos hz,hz,Int.zero_mul]; decide
  ·rw[if_neg hz]; exact Jj f (j.2.2.2.2.2.2 hz) i h (by omega)
 have Q:1000000*((a+b)*(c+d))=1000000*(a*(c+d))+1000000*(b*(c+d)):=by rw[Int.add_mul,Int.mul_add 1000000]
 obtain⟨u,k⟩:=U4 (l8 t p q a c d+(if b=0 then 0 else l8 t (p+1) q b c d)) ((a+b)*(c+d)) m (by omega) (by omega) e;have v:=FR (a:=l8 t p q a c d+(if b=0 then 0 else l8 t (p+1) q b c d)) (K:=1000000) m e (by omega) (by omega);have z:b9 ((a+b)*(c+d)):=oo;have i2:b9 (a+b):=oo;have i3:b9 (c+d):=oo;refine⟨_,?_,?_,v⟩
 ·unfold K6;rw[H,gP ⟨rfl,trivial⟩,vS,lE,E,gP ⟨rfl,trivial⟩,vS,lE,UR f n i o h,Iy,u,gP ⟨z,rfl,trivial⟩,vS,lE]
 ·unfold BQ;rw[P,gP ⟨rfl,trivial⟩,vS,lE,G,gP ⟨rfl,trivial⟩,vS,lE,H0a f n i o h,Ot,k,gP ⟨i2,i3,z,rfl,trivial⟩,vS,lE]
end Go.Proofs.YtechodbafnmddaaGreatDoor
end
section
namespace Go.Proofs.YtechodbafnmddaaGreatDoor
open Go Go.Proofs Go.Proofs.Sv Go.Proofs.Xv Go.Proofs.Xl Go.Proofs.Xd
section
variable {b:j1}
theorem Hv(b:j1){n:Nat}(h:n<b.2.2.length):(j9 b).2.2.2.1.getD ((n:Int)).toNat 0=(A3 b n).getD 0 0/\ix (n:Int) (j9 b).2.2.2.1.length:=by
 have a:(j9 b).2.2.2.1.length=b.2.2.length:=Hf _ _;exact⟨MZ _ 0 _ n h,oo⟩
theorem Hw(b:j1){n:Nat}(h:n<b.2.2.length):(j9 b).2.2.2.2.1.getD ((n:Int)).toNat []=Y6 b n/\ix (n:Int) (j9 b).2.2.2.2.1.length:=by
 have a:(j9 b).2.2.2.2.1.length=b.2.2.length:=Hf _ _;exact⟨MZ _ [] _ n h,oo⟩
theorem H0k(h:wf j6 b)(i:u3 b=true){n k:Nat}(g:n<b.2.2.length)(W:k < (x9 b.2.1 n).length){s m:Int}(e:0<=s)(w:s<=1000000)(F:m=0∨m=1) :
  ∃r,V0 s ((Y6 b n).getD k 0) m=some r/\KF b (n:Int) (k:Int) s m=some r/\0<=r:=by
 have c:=Bv i g;obtain⟨l,v⟩:=c.delays;have d:=v (r9 b n k).toNat;have u:=c.sn;have T:=c.wf.snkIn k (by omega);obtain⟨f1,Y,X⟩:=Qo s ((A7 b n).getD (r9 b n k).toNat 0);have V:=K8 (A:=1000000) (B:=1000000) (x:=s) (y:=s) (by omega) (by omega) (by omega) (by omega) (by decide);have j:=K8 (A:=301000000) (B:=301000000) (x:=(A7 b n).getD (r9 b n k).toNat 0) (y:=(A7 b n).getD (r9 b n k).toNat 0) (by omega) (by omega) (by omega) (by omega) (by decide);have E:0<=s*s:=Int.mul_nonneg e e;have H:0<=(A7 b n).getD (r9 b n k).toNat 0*(A7 b n).getD (r9 b n k).toNat 0:=Int.mul_nonneg d.1 d.1;obtain⟨r,z,w1,o,q,t,_⟩:=J0S e w d.1 d.2 F;refine⟨r,by grind[Hk],?_,t⟩;have G:((n:Int)).toNat=n:=rfl;have P:((k:Int)).toNat=k:=rfl;have a:0<=(b.2.2.getD n (a7 y172)).2.2.2.getD k 0/\((b.2.2.getD n (a7 y172)).2.2.2.getD k 0).toNat < (A7 b n).length:=by rw[l]; exact T
 have f:k < (b.2.2.getD n (a7 y172)).2.2.2.length:=by
  show k < (j3 b n).2.2.2.length;omega
 unfold KF;rw[L0g b h c,vS,G,P,gP ⟨rfl,oo,oo,⟨a.1,by omega⟩,a.2,trivial⟩,lE];show gd (b9 (1000000*s)/\b9 (1000000*s*s)/\b9 (4*(A7 b n).getD (r9 b n k).toNat 0)/\b9 (4*(A7 b n).getD (r9 b n k).toNat 0*(A7 b n).getD (r9 b n k).toNat 0)/\b9 (1000000*s*s+4*(A7 b n).getD (r9 b n k).toNat 0*(A7 b n).getD (r9 b n k).toNat 0)/\(CC (1000000*s*s+4*(A7 b n).getD (r9 b n k).toNat 0*(A7 b n).getD (r9 b n k).toNat 0) m).isSome=true/\(U9 (vl (CC (1000000*s*s+4*(A7 b n).getD (r9 b n k).toNat 0*(A7 b n).getD (r9 b n k).toNat 0) m)) 1000 m).isSome=true/\True) (lt (vl (U9 (vl (CC (1000000*s*s+4*(A7 b n).getD (r9 b n k).toNat 0*(A7 b n).getD (r9 b n k).toNat 0) m)) 1000 m)) fun Q=>some Q)=_;rw[o,vS,q,vS,gP ⟨oo,oo,oo,oo,oo,rfl,rfl,trivial⟩,lE]
theorem No(g:wf j6 b)(f:u3 b=true){q:Int}(o:j2 q 0 (((lV b).length:Int)-1)=true){s m:Int}(P:0<=s)(H:s<=1000000)(Q:m=0∨m=1) :
  ∃r,F9 (j9 b) q s m=some r/\Bb b ((lV b).getD q.toNat (a7 y138)) s m=some r/\r<=1000000:=by
 have o:=A4.1 o;have d:ix q (j9 b).2.2.1.length:=⟨o.1,by show q < ((lV b).length:Int); omega⟩;generalize hl:(lV b).getD q.toNat (a7 y138)=l;have c:(j9 b).2.2.1.getD q.toNat (a7 y138)=l:=hl;have e:l∈lV b:=by rw[<- hl]; exact K7 (by omega)
 rcases Hp f e with ⟨a,n,h⟩ | ⟨n,k,h⟩
 ·obtain⟨t,z⟩:=CU h.slw h.trs;obtain⟨r,w,F,W,E⟩:=Jk z s ((A3 b n).getD 0 0) m;obtain⟨j,i⟩:=Hv b h.nlt;refine⟨r,?_,?_,E⟩
  ·unfold F9;refine(gP ⟨d,trivial⟩).trans ?_;rw[lE,c,Y8 h.pix h.net,vS,gP ⟨rfl,trivial⟩,lE];refine(if_pos (by rw[h.kind]; rfl)).trans ?_;rw[Hq h,vS,j,w,vS];refine(gP ⟨rfl,by decide,t,i,rfl,trivial⟩).trans ?_;rw[lE];have:min r 1000000=r:=by omega
   rw[this]
  ·unfold Bb;refine(if_pos (by rw[h.kind]; rfl)).trans ?_;rw[L0l g f h,vS,gP ⟨rfl,trivial⟩,lE];show gd (_/\ix (l.2.1.tmod 2) a.2.2.2.2.2.length/\(BQ (a.2.2.2.2.2.getD (l.2.1.tmod 2).toNat (a7 y269)) s ((A3 b n).getD 0 0) m).isSome=true/\True) (lt (vl (BQ (a.2.2.2.2.2.getD (l.2.1.tmod 2).toNat (a7 y269)) s ((A3 b n).getD 0 0) m)) fun u=>some u)=_;rw[F,vS,gP ⟨by decide,t,rfl,trivial⟩,lE]
 ·obtain⟨r,G,v,V⟩:=H0k g f h.nlt h.klt P H Q;obtain⟨j,i⟩:=Hw b h.nlt;have x:=Hl b n;have y:=h.klt;refine⟨min r 1000000,?_,?_,by omega⟩
  ·unfold F9;refine(gP ⟨d,trivial⟩).trans ?_;rw[lE,c,Y8 h.pix h.net,vS,gP ⟨rfl,trivial⟩,lE];refine(if_neg (by rw[h.kind]; decide)).trans ?_;rw[j,h.idx];have T:((k:Int)).toNat=k:=rfl;rw[T,G,vS];refine(gP ⟨i,oo,rfl,trivial⟩).trans ?_;rw[lE]
  ·unfold Bb;refine(if_neg (by rw[h.kind]; decide)).trans ?_;rw[L0k g f h,vS,h.idx,v,vS,gP ⟨rfl,rfl,trivial⟩,lE,Int.min_comm]
def B9(c:r5)(k m:Int):Int:=if(k==1)=true then(if(m==0)=true then c.2.1 else c.2.2.1) else(if(m==0)=true then c.2.2.2.1 else c.2.2.2.2)
theorem Np(c:r5)(k m:Int):IB c k m=some (B9 c k m):=by
 grind[IB,B9]
theorem N0J(c:r5)(k m:Int):Gw c k m=some (B9 c k m):=by
 grind[Gw,B9]
def J1(c:r5):Bool:=J4 c.1&&(decide (100<=c.2.1)&&decide (c.2.1<=c.2.2.1)&&decide (c.2.2.1<=5000))&&(decide (100<=c.2.2.2.1)&&decide (c.2.2.2.1<=c.2.2.2.2)&&decide (c.2.2.2.2<=5000))
theorem DP{c:r5}(h:J1 c=true)(k m:Int):0<=B9 c k m/\B9 c k m<=5000:=by
 grind[J1,B9]
theorem Qq(o:wf j6 b)(j:u3 b=true){c:r5}(V:J1 c=true){q:Int}(G:j2 q 0 (((lV b).length:Int)-1)=true)(s m:Int) :
  ∃r,M7 (j9 b) c q s m=some r/\Bc b c ((lV b).getD q.toNat (a7 y138)) s m=some r /\ -6000000<=r/\r<=6000000:=by
 have G:=A4.1 G;have g:ix q (j9 b).2.2.1.length:=⟨G.1,by show q < ((lV b).length:Int); omega⟩;generalize hl:(lV b).getD q.toNat (a7 y138)=l;have e:(j9 b).2.2.1.getD q.toNat (a7 y138)=l:=hl;have i:l∈lV b:=by rw[<- hl]; exact K7 (by omega)
 have hf:=DP V l.2.2.1 m;have d:∀p:Int,-1000000<=p->p<=1000000->Aw c l m p=some (p7 (p*B9 c l.2.2.1 m) 1000 m)/\Il c l m p=some (p7 (p*B9 c l.2.2.1 m) 1000 m) /\ -6000000<=p7 (p*B9 c l.2.2.1 m) 1000 m/\p7 (p*B9 c l.2.2.1 m) 1000 m<=6000000:=fun p p0 p1=>by
  have hp:=K8 (A:=1000000) (B:=5000) (x:=p) (y:=B9 c l.2.2.1 m) (by omega) (by omega) (by omega) (by omega) (by decide);have F:=U4 (p*B9 c l.2.2.1 m) 1000 m (by omega) (by omega) (by decide);have H:=FR (a:=p*B9 c l.2.2.1 m) (b:=1000) (K:=6000000) m (by decide) (by omega) (by omega);have z:Av p (B9 c l.2.2.1 m) m=some (p7 (p*B9 c l.2.2.1 m) 1000 m):=by
   unfold Av;rw[F.1,vS,gP ⟨oo,rfl,trivial⟩,lE]
  refine⟨?_,?_,H⟩
  ·rw[Aw,Np,vS,z,vS,gP ⟨rfl,rfl,trivial⟩,lE]
  ·rw[Il,N0J,vS,F.2,vS,gP ⟨rfl,oo,rfl,trivial⟩,lE]
 rcases Hp j i with ⟨a,n,h⟩ | ⟨n,k,h⟩
 ·obtain⟨P,t2⟩:=CU h.del h.trs;obtain⟨r,Y,l2,l3,l4⟩:=Jk t2 s ((A3 b n).getD 0 0) m;obtain⟨w,v⟩:=Hv b h.nlt;obtain⟨t,u,E⟩:=d r l3 l4;refine⟨_,?_,?_,E⟩
  ·unfold M7;refine(gP ⟨g,trivial⟩).trans ?_;rw[lE,e,Y8 h.pix h.net,vS,gP ⟨rfl,trivial⟩,lE];refine(if_pos (by rw[h.kind]; rfl)).trans ?_;rw[Hq h,vS,w,Y,vS];refine(gP ⟨rfl,by decide,P,v,rfl,trivial⟩).trans ?_;rw[lE];exact t
  ·unfold Bc;refine(if_pos (by rw[h.kind]; rfl)).trans ?_;rw[L0l o j h,vS,gP ⟨rfl,trivial⟩,lE];show gd (_/\ix (l.2.1.tmod 2) a.2.2.2.2.1.length/\(BQ (a.2.2.2.2.1.getD (l.2.1.tmod 2).toNat (a7 y269)) s ((A3 b n).getD 0 0) m).isSome=true/\True) (lt (vl (BQ (a.2.2.2.2.1.getD (l.2.1.tmod 2).toNat (a7 y269)) s ((A3 b n).getD 0 0) m)) fun X=>Il c l m X)=_;rw[l2,vS,gP ⟨by decide,P,rfl,trivial⟩,lE];exact u
 ·have Q:=Bv j h.nlt;obtain⟨dl,db⟩:=Q.delays;have F:=db (r9 b n k).toNat;obtain⟨w,v⟩:=Hw b h.nlt;have aA:=Hl b n;have f:=h.klt;have W:=u0c b n m;have T:((k:Int)).toNat=k:=rfl;have H:=FR (a:=(A7 b n).getD (r9 b n k).toNat 0) (b:=1000) (K:=301000) m (by decide) (by omega) (by omega);obtain⟨t,u,E⟩:=d (p7 ((A7 b n).getD (r9 b n k).toNat 0) 1000 m) (by omega) (by omega);refine⟨_,?_,?_,E⟩
  ·unfold M7;refine(gP ⟨g,trivial⟩).trans ?_;rw[lE,e,Y8 h.pix h.net,vS,gP ⟨rfl,trivial⟩,lE];refine(if_neg (by rw[h.kind]; decide)).trans ?_;rw[w,h.idx,T,Hk f,(U4 _ 1000 m (by omega) (by omega) (by decide)).1,vS];refine(gP ⟨v,oo,rfl,trivial⟩).trans ?_;rw[lE];exact t
  ·unfold Bc;refine(if_neg (by rw[h.kind]; decide)).trans ?_;rw[L0k o j h,vS,N0K b o Q,vS,h.idx,T,gP ⟨rfl,rfl,oo,by omega,trivial⟩,lE,u0d f];exact u
theorem L0i(s:Int):FD s=some (j2 s 0 1000000):=by
 unfold FD;rw[Y2,vS,gP ⟨rfl,trivial⟩]
end
theorem UT{b:j1}{q:Int}(h:j2 q 0 (((lV b).length:Int)-1)=true):ix q (lV b).length/\q.toNat < (lV b).length:=by
 have:=A4.1 h;exact⟨oo,by omega⟩
theorem O0f(c:r5)(e:wf A0 c):Mx c=some (J1 c):=by
 have d:∀a b,GP a b=some (decide (100<=a)&&decide (a<=b)&&decide (b<=5000)):=fun _ _=>rfl;unfold Mx J1;rw[Up _ e.1,vS,d,vS,d,vS,gP ⟨rfl,(fun _=>rfl),(fun _=>rfl),trivial⟩]
def UU(c:r5)(i:Nat):Bool:=!j2 ([c.2.1,c.2.2.1,c.2.2.2.1,c.2.2.2.2].getD i 0) 100 5000
theorem r84(c:r5)(m:wf A0 c):Dv c=some (J1 c):=by
 unfold Dv;rw[lE];have b:=H9 (n:=4) (by decide) (UU c) (some false) (e:=Li c ()) (F:=OQ [c.2.1,c.2.2.1,c.2.2.2.1,c.2.2.2.2] c) (fun g i hi=>by
  have l:((i:Int)).toNat=i:=rfl;have d:([c.2.1,c.2.2.1,c.2.2.2.1,c.2.2.2.2]:List Int).length=4:=rfl;refine(if_pos (decide_eq_true (by rw[d]; omega))).trans ?_;rw[l,R8,vS,gP ⟨⟨by omega,by rw[d]; omega⟩,hi,rfl,trivial⟩,gP ⟨oo,trivial⟩];rfl) (fun g=>by
  show OQ [c.2.1,c.2.2.1,c.2.2.2.1,c.2.2.2.2] c g (((4:Nat):Int))=_;rw[OQ];exact if_neg (by simp))
 refine b.trans ?_;have j:Li c ()=some (J4 c.1&&decide (c.2.1<=c.2.2.1)&&decide (c.2.2.2.1<=c.2.2.2.2)):=by
  unfold Li;rw[Qd _ m.1,vS,gP ⟨rfl,trivial⟩]
 rw[j];have o:(List.range 4).any (UU c)=(!j2 c.2.1 100 5000||(!j2 c.2.2.1 100 5000||(!j2 c.2.2.2.1 100 5000||(!j2 c.2.2.2.2 100 5000||false)))):=rfl;have k:(if(List.range 4).any (UU c)=true then false else(J4 c.1&&decide (c.2.1<=c.2.2.1)&&decide (c.2.2.2.1<=c.2.2.2.2)))=J1 c:=by
  rw[o,Bool.eq_iff_iff];unfold J1 j2;by_cases h:(!(decide (100<=c.2.1)&&decide (c.2.1<=5000))||(!(decide (100<=c.2.2.1)&&decide (c.2.2.1<=5000))||(!(decide (100<=c.2.2.2.1)&&decide (c.2.2.2.1<=5000))||(!(decide (100<=c.2.2.2.2)&&decide (c.2.2.2.2<=5000))||false))))=true
  ·rw[if_pos h];simp only[Bool.or_eq_true,Bool.not_eq_true',Bool.and_eq_false_iff,decide_eq_false_iff_not,Bool.false_eq_true,or_false] at h;simp only[ba,dq,Bool.false_eq_true,false_iff];rintro⟨⟨_,a⟩,f⟩;omega
  ·rw[if_neg h];simp only[Bool.or_eq_true,Bool.not_eq_true',Bool.and_eq_false_iff,decide_eq_false_iff_not,Bool.false_eq_true,or_false] at h;simp only[ba,dq];constructor
   ·rintro⟨⟨a,f⟩,q⟩;exact⟨⟨a,by omega⟩,by omega⟩
   ·rintro⟨⟨a,f⟩,q⟩;exact⟨⟨a,by omega⟩,by omega⟩
 rw[<- k];split <;> rfl
end Go.Proofs.YtechodbafnmddaaGreatDoor
end
section
namespace Go.Proofs.YtechodbafnmddaaGreatDoor
open Go Go.Proofs Go.Proofs.Xv Go.Proofs.Xl Go.Proofs.Xd
theorem Jl{a b:Int}(m:Int)(c:0<=a)(d:0<b):0<=p7 a b m:=by
 unfold p7;have f:=Int.emod_nonneg a (Int.ne_of_gt d);have e:0<=a / b:=Int.ediv_nonneg c (Int.le_of_lt d);rw[Int.tdiv_eq_ediv_of_nonneg c,Int.tmod_eq_emod_of_nonneg c,if_neg (by rw[ba,dq]; omega)];split <;> omega
theorem u0H(xs:List Int):∀n i,i<=n->fN (fun i m=>min m (xs.getD (i+1) 0)) n (xs.getD 0 0)<=xs.getD i 0
 | 0,i,h=>by
   have:i=0:=by omega
   subst this;exact Int.le_refl _
 | n+1,i,h=>by
   show min (fN (fun i m=>min m (xs.getD (i+1) 0)) n (xs.getD 0 0)) (xs.getD (n+1) 0)<=_;rcases Nat.lt_or_ge n i with a | a
   ·have:i=n+1:=by omega
    subst this;omega
   ·have:=u0H xs n i a;omega
theorem Qr{l:List DE}(h:H6 l true=true){t:DE}(b:t∈l):∀i,i<t.2.2.length->0<=t.2.2.getD i 0:=fun i hi=>by
 unfold H6 at h;rw[ba] at h;have:=List.all_eq_true.1 h.2 t b;simp only[Bool.true_and,ba,Bool.not_eq_true',decide_eq_false_iff_not] at this;have c:=u0H t.2.2 (t.2.2.length-1) i (by omega);have a:¬AF t.2.2<0:=this.2;unfold AF at a;omega
theorem Qs{t:o5}(e:∀i,i<t.2.2.length->0<=t.2.2.getD i 0){r q:Nat}{w c d:Int}(b:0<=w)(g:0<=c)(f:0<=d):0<=l8 t r q w c d:=by
 have a:∀r q,0<=J8 t r q:=fun r q=>by
  unfold J8;rcases Nat.lt_or_ge (r*t.2.1.length+q) t.2.2.length with h | h
  ·exact e _ h
  ·rw[gq,List.getElem?_eq_none h]; exact Int.le_refl _
 unfold l8;have k:=Int.mul_nonneg (Int.mul_nonneg (a r q) b) g;have j:=Int.mul_nonneg (Int.mul_nonneg (a r (q+1)) b) f;omega
theorem q0G{t:o5}(h:C5 t=true)(z:∀i,i<t.2.2.length->0<=t.2.2.getD i 0)(s l m:Int):∀r,K6 t s l m=some r->0<=r:=by
 intro r F;have j:H5 t.1=true/\H5 t.2.1=true:=by
  simp only[C5,ba] at h;exact⟨h.1.1.1,h.1.1.2⟩
 obtain⟨p,a,b,L,k,E,h1,P⟩:=Hu s j.1;obtain⟨q,c,d,M,v,n,h3,G⟩:=Hu l j.2;have g:0<=a/\0<=b/\1<=a+b/\a+b<=100000/\a<=100000/\b<=100000/\(b≠0->p+1<t.1.length):=by
  rcases E with ⟨rfl,rfl,_⟩ | ⟨_,_,_,_,_⟩ <;> omega
 have e:0<=c/\0<=d/\1<=c+d/\c+d<=100000:=by
  rcases n with ⟨rfl,rfl,_⟩ | ⟨_,_,_,_,_⟩ <;> omega
 have Y:=K8 (A:=100000) (B:=100000) (x:=a+b) (y:=c+d) (by omega) (by omega) (by omega) (by omega) (by decide);have f:0 < (a+b)*(c+d):=Int.mul_pos (by omega) (by omega);have V:=Jj h k v n (w:=a) (by omega);have W : -(1000000*(b*(c+d)))<=(if b=0 then 0 else l8 t (p+1) q b c d)/\(if b=0 then 0 else l8 t (p+1) q b c d)<=1000000*(b*(c+d)):=by
  by_cases hz:b=0
  ·rw[if_pos hz,hz,Int.zero_mul]; decide
  ·rw[if_neg hz]; exact Jj h (g.2.2.2.2.2.2 hz) v n (by omega)
 have X:=Qs z (r:=p) (q:=q) g.1 e.1 e.2.1;have Q:0<=(if b=0 then 0 else l8 t (p+1) q b c d):=by
  split
  ·exact Int.le_refl _
  ·exact Qs z g.2.1 e.1 e.2.1
 have T:1000000*((a+b)*(c+d))=1000000*(a*(c+d))+1000000*(b*(c+d)):=by rw[Int.add_mul,Int.mul_add 1000000]
 have u:=(U4 (l8 t p q a c d+(if b=0 then 0 else l8 t (p+1) q b c d)) ((a+b)*(c+d)) m (by omega) (by omega) f).1;have H:b9 ((a+b)*(c+d)):=oo;have o:K6 t s l m=some (p7 (l8 t p q a c d+(if b=0 then 0 else l8 t (p+1) q b c d)) ((a+b)*(c+d)) m):=by
  unfold K6;rw[P,gP ⟨rfl,trivial⟩,vS,lE,G,gP ⟨rfl,trivial⟩,vS,lE,UR h k v E n,Iy,u,gP ⟨H,rfl,trivial⟩,vS,lE]
 rw[o] at F;cases F;exact Jl m (by omega) f
end Go.Proofs.YtechodbafnmddaaGreatDoor
end
section
namespace Go.Proofs.YtechodbafnmddaaGreatDoor
open Go Go.Proofs Go.Proofs.Sv Go.Proofs.Xv Go.Proofs.Xl Go.Proofs.Xd
theorem Qt{a:Int}(m:Int)(h:0<=a):p7 a 1000 m=if 0<a % 1000/\m=1 then a / 1000+1 else a / 1000:=by
 unfold p7;have b:=Int.emod_nonneg a (show(1000:Int)≠0 by decide);rw[Int.tdiv_eq_ediv_of_nonneg h,Int.tmod_eq_emod_of_nonneg h,if_neg (by rw[ba,dq]; omega)];by_cases c:0<a % 1000/\m=1
 ·rw[if_pos c,if_pos (by rw[ba,dq,beq_iff_eq]; exact c)]
 ·rw[if_neg c,if_neg (by rw[ba,dq,beq_iff_eq]; exact c)]
theorem v0u{a b:Int}(m:Int)(h:0<=a)(c:a<=b):p7 a 1000 m<=p7 b 1000 m:=by
 rw[Qt m h,Qt m (by omega)];split <;> split <;> omega
theorem UW{a b:Int}(h:0<=a)(c:a<=b):p7 a 1000 0<=p7 b 1000 1:=by
 rw[Qt 0 h,Qt 1 (by omega)];rw[if_neg (by omega)];split <;> omega
theorem u0C{p x y:Int}(a:0<=p)(h:x<=y):p*x<=p*y:=Int.mul_le_mul_of_nonneg_left h a
section
variable {b:j1}
structure T0s(b:j1)(q:Int)(B:Int->Int->Int):Prop where
 bd:∀s m,0<=B s m/\B s m<=1000000
 val:∀c,J1 c=true->∀s m,M7 (j9 b) c q s m=some (p7 (B s m*B9 c ((lV b).getD q.toNat (a7 y138)).2.2.1 m) 1000 m)
theorem D0t(T:u3 b=true){q:Int}(Q:j2 q 0 (((lV b).length:Int)-1)=true):∃B,T0s b q B:=by
 have Q:=A4.1 Q;have i:ix q (j9 b).2.2.1.length:=⟨Q.1,by show q < ((lV b).length:Int); omega⟩;generalize hl:(lV b).getD q.toNat (a7 y138)=l;have g:(j9 b).2.2.1.getD q.toNat (a7 y138)=l:=hl;have j:l∈lV b:=by rw[<- hl]; exact K7 (by omega)
 have e:∀(c:r5) (m p:Int),J1 c=true -> -1000000<=p->p<=1000000->Aw c l m p=some (p7 (p*B9 c l.2.2.1 m) 1000 m):=fun c m p f p0 p1=>by
  have hf:=DP f l.2.2.1 m;have hp:=K8 (A:=1000000) (B:=5000) (x:=p) (y:=B9 c l.2.2.1 m) (by omega) (by omega) (by omega) (by omega) (by decide);have X:=U4 (p*B9 c l.2.2.1 m) 1000 m (by omega) (by omega) (by decide);have H:Av p (B9 c l.2.2.1 m) m=some (p7 (p*B9 c l.2.2.1 m) 1000 m):=by
   unfold Av;rw[X.1,vS,gP ⟨oo,rfl,trivial⟩,lE]
  rw[Aw,Np,vS,H,vS,gP ⟨rfl,rfl,trivial⟩,lE]
 rcases Hp T j with ⟨a,n,h⟩ | ⟨n,k,h⟩
 ·obtain⟨u,F⟩:=CU h.del h.trs;have E:(l.2.1.tmod 2).toNat<a.2.2.2.2.1.length:=by have:=u.1; have:=u.2; omega
  have P:=Qr h.del (K7 (d:=a7 y269) E);obtain⟨G,v⟩:=Hv b h.nlt;refine⟨fun s m=>vl (K6 (a.2.2.2.2.1.getD (l.2.1.tmod 2).toNat (a7 y269)) s ((A3 b n).getD 0 0) m),⟨fun s m=>?_,fun c f s m=>?_⟩⟩
  ·obtain⟨r,o,l2,W,V⟩:=Jk F s ((A3 b n).getD 0 0) m;have:=q0G F P s ((A3 b n).getD 0 0) m r o;rw[o,vS];omega
  ·obtain⟨r,o,l2,W,V⟩:=Jk F s ((A3 b n).getD 0 0) m;show _=some (p7 (vl (K6 (a.2.2.2.2.1.getD (l.2.1.tmod 2).toNat (a7 y269)) s ((A3 b n).getD 0 0) m)*B9 c ((lV b).getD q.toNat (a7 y138)).2.2.1 m) 1000 m);rw[hl];unfold M7;refine(gP ⟨i,trivial⟩).trans ?_;rw[lE,g,Y8 h.pix h.net,vS,gP ⟨rfl,trivial⟩,lE];refine(if_pos (by rw[h.kind]; rfl)).trans ?_;rw[Hq h,vS,G,o,vS];refine(gP ⟨rfl,by decide,u,v,rfl,trivial⟩).trans ?_;rw[lE];exact e c m r f W V
 ·have no:=Bv T h.nlt;obtain⟨dl,db⟩:=no.delays;have X:=db (r9 b n k).toNat;obtain⟨G,v⟩:=Hw b h.nlt;have Y:=Hl b n;have z:=h.klt;have e4:((k:Int)).toNat=k:=rfl;have t:=fun m=>FR (a:=(A7 b n).getD (r9 b n k).toNat 0) (b:=1000) (K:=301000) m (by decide) (by omega) (by omega);have w:=fun m=>Jl (a:=(A7 b n).getD (r9 b n k).toNat 0) (b:=1000) m (by omega) (by decide);refine⟨fun _ m=>p7 ((A7 b n).getD (r9 b n k).toNat 0) 1000 m,⟨fun s m=>⟨w m,by have:=(t m).2; omega⟩,fun c f s m=>?_⟩⟩;show _=some (p7 (p7 ((A7 b n).getD (r9 b n k).toNat 0) 1000 m*B9 c ((lV b).getD q.toNat (a7 y138)).2.2.1 m) 1000 m);rw[hl];unfold M7;refine(gP ⟨i,trivial⟩).trans ?_;rw[lE,g,Y8 h.pix h.net,vS,gP ⟨rfl,trivial⟩,lE];refine(if_neg (by rw[h.kind]; decide)).trans ?_;rw[G,h.idx,e4,Hk z,(U4 _ 1000 m (by omega) (by omega) (by decide)).1,vS];refine(gP ⟨v,oo,rfl,trivial⟩).trans ?_;rw[lE];exact e c m _ f (by have:=t m; omega) (by have:=t m; omega)
end
theorem D0D{a b c:Int}(g:0<=a)(f:0<b)(h:a<=c*b):p7 a b 1<=c:=by
 rw[By g f];have e:=Int.mul_ediv_add_emod a b;split
 ·rename_i hz;rcases Int.lt_or_le (a / b) c with d | d
  ·omega
  ·have:=Int.mul_le_mul_of_nonneg_right d (show 0<=b by omega);have:b*(a / b)=a / b*b:=Int.mul_comm _ _;omega
 ·exact Int.ediv_le_of_le_mul f h
theorem D0a{a b:Int}(d:0<=a)(c:0<b):a<=p7 a b 1*b:=by
 rw[By d c];have e:=Int.mul_ediv_add_emod a b;have f:=Int.emod_lt_of_pos a c;have g:=Int.emod_nonneg a (show b≠0 by omega);have:b*(a / b)=a / b*b:=Int.mul_comm _ _;split
 ·grind
 ·omega
theorem Jm{a b c d:Int}(j:0<=a)(f:0<b)(i:0<=c)(e:0<d)(h:a*d<=c*b){m:Int}(k:m=0∨m=1):p7 a b m<=p7 c d m:=by
 rcases k with rfl | rfl
 ·rw[DN j f,DN i e,Int.le_ediv_iff_mul_le e];have l:=Int.mul_le_mul_of_nonneg_right (Int.ediv_mul_le a (show b≠0 by omega)) (show 0<=d by omega);have g:a / b*d*b<=c*b:=by rw[Int.mul_assoc,Int.mul_comm d b,<- Int.mul_assoc]; omega
  exact Int.le_of_mul_le_mul_right g f
 ·refine D0D j f ?_;have l:=Int.mul_le_mul_of_nonneg_right (D0a i e) (show 0<=b by omega);have g:a*d<=p7 c d 1*b*d:=by rw[Int.mul_assoc,Int.mul_comm b d,<- Int.mul_assoc]; omega
  exact Int.le_of_mul_le_mul_right g e
theorem D0i{a b:Int}(c:0<=a)(d:0<b):p7 a b 0<=p7 a b 1:=by
 grind[DN,By]
theorem E0x{xs:List Int}(h:H5 xs=true){p:Nat}(a:p<xs.length):P2 xs (xs.getD p 0)=some ([((p:Int),1)],1):=by
 obtain⟨k,l⟩:=CO h;have c:((xs.length:Int)-1).toNat=xs.length-1:=by omega
 have m:xs.getD 0 0<=xs.getD p 0:=by
  rcases Nat.eq_zero_or_pos p with e | e
  ·grind
  ·have:=CT h e a; omega
 have j:xs.getD p 0<=xs.getD (xs.length-1) 0:=by
  rcases Nat.lt_or_ge p (xs.length-1) with e | e
  ·have:=CT h e (by omega); omega
  ·grind
 have b:A5 xs (xs.getD p 0)=xs.getD p 0:=by unfold A5; omega
 have g:∀i,i<p->xs.getD i 0<A5 xs (xs.getD p 0):=fun i hi=>by rw[b]; exact CT h hi a
 have f:∀i,p<=i->i<xs.length->A5 xs (xs.getD p 0)<=xs.getD i 0:=fun i hi d=>by
  rw[b];rcases Nat.eq_or_lt_of_le hi with e | e
  ·grind
  ·have:=CT h e d; omega
 unfold P2;rw[gP ⟨oo,oo,oo,trivial⟩,c];change lt (A5 xs (xs.getD p 0)) _=_;rw[lE,Nn (by omega) a g f,gP ⟨rfl,trivial⟩,vS,lE,if_pos (by grind)]
theorem Qu{t:o5}(n:C5 t=true)(_:∀i,i<t.2.2.length->0<=t.2.2.getD i 0){s l:Int}{p q:Nat}{a b c d:Int}{L M:List (Int×Int)}(f:p<t.1.length)(o:Sh t.1.length p a b L)(v:P2 t.1 s=some (L,a+b))(h:q<t.2.1.length)(g:Sh t.2.1.length q c d M)(r:P2 t.2.1 l=some (M,c+d))(m:Int) :
  K6 t s l m=some (p7 (l8 t p q a c d+(if b=0 then 0 else l8 t (p+1) q b c d)) ((a+b)*(c+d)) m):=by
 have j:0<=a/\0<=b/\1<=a+b/\a+b<=100000/\a<=100000/\b<=100000/\(b≠0->p+1<t.1.length):=by
  rcases o with ⟨rfl,rfl,_⟩ | ⟨_,_,_,_,_⟩ <;> omega
 have z:0<=c/\0<=d/\1<=c+d/\c+d<=100000:=by
  rcases g with ⟨rfl,rfl,_⟩ | ⟨_,_,_,_,_⟩ <;> omega
 have E:=K8 (A:=100000) (B:=100000) (x:=a+b) (y:=c+d) (by omega) (by omega) (by omega) (by omega) (by decide);have e:0 < (a+b)*(c+d):=Int.mul_pos (by omega) (by omega);have G:=Jj n f h g (w:=a) (by omega);have F : -(1000000*(b*(c+d)))<=(if b=0 then 0 else l8 t (p+1) q b c d)/\(if b=0 then 0 else l8 t (p+1) q b c d)<=1000000*(b*(c+d)):=by
  by_cases hz:b=0
  ·grind
  ·rw[if_neg hz]; exact Jj n (j.2.2.2.2.2.2 hz) h g (by omega)
 have H:1000000*((a+b)*(c+d))=1000000*(a*(c+d))+1000000*(b*(c+d)):=by grind
 have k:=(U4 (l8 t p q a c d+(if b=0 then 0 else l8 t (p+1) q b c d)) ((a+b)*(c+d)) m (by omega) (by omega) e).1;have u:b9 ((a+b)*(c+d)):=oo;unfold K6;rw[v,gP ⟨rfl,trivial⟩,vS,lE,r,gP ⟨rfl,trivial⟩,vS,lE,UR n f h o g,Iy,k,gP ⟨u,rfl,trivial⟩,vS,lE]
theorem Nq(t:o5)(r q:Nat)(w c d:Int):l8 t r q w c d=w*l8 t r q 1 c d:=by
 grind[l8]
structure Nr(t:o5)(l:Int)(V:Int->Int->Int):Prop where
 val:∀s m,K6 t s l m=some (V s m)
 pos:∀s m,0<=V s m
 two:∀s,V s 0<=V s 1
 lo:∀s,∃i,i<t.1.length/\V (t.1.getD i 0) 0<=V s 0
 hi:∀s,∃i,i<t.1.length/\V s 1<=V (t.1.getD i 0) 1
theorem C0U{t:o5}(E:C5 t=true)(G:∀i,i<t.2.2.length->0<=t.2.2.getD i 0)(l:Int):∃V,Nr t l V:=by
 have w:H5 t.1=true/\H5 t.2.1=true:=by
  simp only[C5,ba] at E;exact⟨E.1.1.1,E.1.1.2⟩
 obtain⟨q,c,d,M,T,H,X,P⟩:=Hu l w.2;have y:0<=c/\0<=d/\1<=c+d/\c+d<=100000:=by
  rcases H with ⟨rfl,rfl,_⟩ | ⟨_,_,_,_,_⟩ <;> omega
 have F:∀r,0<=l8 t r q 1 c d:=fun r=>Qs G (by decide) y.1 y.2.1;have j:∀s,∃(p:Nat) (a b:Int),p<t.1.length/\0<=a/\0<=b/\1<=a+b/\(b≠0->p+1<t.1.length)/\∀m,K6 t s l m=some (p7 (a*l8 t p q 1 c d+b*l8 t (p+1) q 1 c d) ((a+b)*(c+d)) m):=fun s=>by
  obtain⟨p,a,b,L,g,Q,Y,W⟩:=Hu s w.1;have e:0<=a/\0<=b/\1<=a+b/\(b≠0->p+1<t.1.length):=by
   rcases Q with ⟨rfl,rfl,_⟩ | ⟨_,_,_,_,_⟩ <;> omega
  refine⟨p,a,b,g,e.1,e.2.1,e.2.2.1,e.2.2.2,fun m=>?_⟩;rw[Qu E G g Q W T H P m];by_cases hz:b=0
  ·rw[if_pos hz,Nq t p q a,hz,Int.zero_mul]
  ·rw[if_neg hz,Nq t p q a,Nq t (p+1) q b]
 have x:∀p,p<t.1.length->∀m,K6 t (t.1.getD p 0) l m=some (p7 (l8 t p q 1 c d) (c+d) m):=fun p g m=>by
  have:=Qu E G (a:=1) (b:=0) g (.inl ⟨rfl,rfl,rfl⟩) (E0x w.1 g) T H P m;rw[this,if_pos rfl,Int.add_zero,Int.add_zero,Int.one_mul]
 have u:∀{a b:Int} (p:Nat),0<=a->0<=b->0<=a*l8 t p q 1 c d+b*l8 t (p+1) q 1 c d:=fun p o k=>by
  have:=Int.mul_nonneg o (F p);have:=Int.mul_nonneg k (F (p+1));omega
 have c9:∀{a b:Int},1<=a+b->0 < (a+b)*(c+d):=fun h=>Int.mul_pos (by omega) (by omega);refine⟨fun s m=>vl (K6 t s l m),⟨fun s m=>?_,fun s m=>?_,fun s=>?_,fun s=>?_,fun s=>?_⟩⟩
 ·obtain⟨p,a,b,_,_,_,_,_,h⟩:=j s
  grind[vl,K6,vS]
 ·obtain⟨p,a,b,_,o,k,e,_,h⟩:=j s;show 0<=vl (K6 t s l m);rw[h,vS];exact Jl m (u p o k) (c9 e)
 ·obtain⟨p,a,b,_,o,k,e,_,h⟩:=j s;show vl (K6 t s l 0)<=vl (K6 t s l 1);rw[h,h,vS,vS];exact D0i (u p o k) (c9 e)
 ·obtain⟨p,a,b,g,o,k,e,v,h⟩:=j s;have n:∀r,r<t.1.length->(a+b)*l8 t r q 1 c d<=a*l8 t p q 1 c d+b*l8 t (p+1) q 1 c d->∃i,i<t.1.length/\vl (K6 t (t.1.getD i 0) l 0)<=vl (K6 t s l 0):=fun r z f=>by
   refine⟨r,z,?_⟩;rw[h,x r z,vS,vS];refine Jm (F r) (by omega) (u p o k) (c9 e) ?_ (.inl rfl);have:=Int.mul_le_mul_of_nonneg_right f (show 0<=c+d by omega)
   grind
  by_cases hz:b=0
  ·grind
  ·rcases Int.le_total (l8 t p q 1 c d) (l8 t (p+1) q 1 c d) with f | f
   ·refine n p g ?_;have:=Int.mul_le_mul_of_nonneg_left f k
    grind
   ·refine n (p+1) (v hz) ?_;have:=Int.mul_le_mul_of_nonneg_left f o
    grind
 ·obtain⟨p,a,b,g,o,k,e,v,h⟩:=j s;have n:∀r,r<t.1.length->a*l8 t p q 1 c d+b*l8 t (p+1) q 1 c d<=(a+b)*l8 t r q 1 c d->∃i,i<t.1.length/\vl (K6 t s l 1)<=vl (K6 t (t.1.getD i 0) l 1):=fun r z f=>by
   refine⟨r,z,?_⟩;rw[h,x r z,vS,vS];refine Jm (u p o k) (c9 e) (F r) (by omega) ?_ (.inr rfl);have:=Int.mul_le_mul_of_nonneg_right f (show 0<=c+d by omega)
   grind
  by_cases hz:b=0
  ·grind
  ·rcases Int.le_total (l8 t p q 1 c d) (l8 t (p+1) q 1 c d) with f | f
   ·refine n (p+1) (v hz) ?_;have:=Int.mul_le_mul_of_nonneg_left f o
    grind
   ·refine n p g ?_;have:=Int.mul_le_mul_of_nonneg_left f k
    grind
theorem s0L{s d:Int}(e:0<=s)(v:s<=1000000)(c:0<=d)(o:d<=301000000):∃r z,V0 s d 0=some r/\V0 s d 1=some z/\r<=z:=by
 obtain⟨k,q,t⟩:=Qo s d;have w:=K8 (A:=1000000) (B:=1000000) (x:=s) (y:=s) (by omega) (by omega) (by omega) (by omega) (by decide);have u:=K8 (A:=301000000) (B:=301000000) (x:=d) (y:=d) (by omega) (by omega) (by omega) (by omega) (by decide);have f:0<=s*s:=Int.mul_nonneg e e;have j:0<=d*d:=Int.mul_nonneg c c;obtain⟨R,h,g,i⟩:=UM (n:=250000*(s*s)+d*d) (by omega) (by omega);have a:=h.1;have l:=K8 (A:=3000000000) (B:=3000000000) (x:=R) (y:=R) (by omega) (by omega) (by omega) (by omega) (by decide);have b:∀m,V0 s d m=some (P0 (250000*(s*s)+d*d) m R):=fun m=>by
  unfold V0;rw[k,i,vS,gP ⟨oo,oo,oo,oo,oo,trivial⟩,gP ⟨rfl,trivial⟩,lE,gP ⟨(fun _=>oo),trivial⟩];unfold P0;split
  ·have:R.tdiv 500=R / 500:=Int.tdiv_eq_ediv_of_nonneg a;exact gP ⟨by decide,oo,trivial⟩
  ·rw[(U4 R 500 m (by omega) (by omega) (by decide)).1,vS,gP ⟨rfl,trivial⟩,lE]
 refine⟨_,_,b 0,b 1,?_⟩;unfold P0;rw[if_neg (by simp),DN a (by decide)]
 grind[Int.tdiv_eq_ediv_of_nonneg,By]
def N7(s:Int×Int):Bool:=j2 s.1 (-1000000000) 1000000000&&j2 s.2 (-1000000000) 1000000000&&decide (s.1<=s.2)
def K5(s:Int×Int):Bool:=N7 s&&j2 s.1 0 1000000&&j2 s.2 0 1000000
theorem K0K(s:Int×Int):Bh s=some (K5 s):=by
 have e:∀x,Fw x=some (j2 x (-1000000000) 1000000000):=fun _=>rfl;have a:P3 s=some (N7 s):=by
  unfold P3;rw[e,e,vS,vS];exact gP ⟨rfl,fun _=>rfl,trivial⟩
 unfold Bh;rw[a,vS,L0i,L0i,vS,vS];exact gP ⟨rfl,fun _=>rfl,fun _=>rfl,trivial⟩
theorem Qv(s:Int×Int):Bh s=some (K5 s)/\CE s=some (K5 s):=by
 refine⟨K0K s,?_⟩;unfold CE;refine congrArg some ?_;unfold K5 N7 j2;rw[Bool.eq_iff_iff];simp only[ba,dq];omega
theorem s0h{b:j1}(d:wf j6 b)(e:u3 b=true){c:r5}(f:J1 c=true){q:Int}(a:j2 q 0 (((lV b).length:Int)-1)=true)(sp:Int×Int)(g:K5 sp=true) :
  ∃v:(Int×Int)×Int×Int,Dz (j9 b) c q sp=some v/\Im b c ((lV b).getD q.toNat (a7 y138)) sp=some v:=by
 unfold K5 at g;rw[ba,ba] at g;have i:=A4.1 g.1.2;have h:=A4.1 g.2;have k:=A4.1 a;have j:ix q (j9 b).2.2.1.length:=⟨k.1,by show q < ((lV b).length:Int); omega⟩;obtain⟨l,W,X,_⟩:=Qq d e f a sp.1 0;obtain⟨n,a2,w,_⟩:=Qq d e f a sp.2 0;obtain⟨r,z,y,_⟩:=Qq d e f a sp.1 1;obtain⟨o,s,Y,_⟩:=Qq d e f a sp.2 1;obtain⟨G,P,f1,_⟩:=No d e a i.1 i.2 (m:=0) (.inl rfl);obtain⟨t,u,F,_⟩:=No d e a h.1 h.2 (m:=0) (.inl rfl);obtain⟨V,Q,x,_⟩:=No d e a i.1 i.2 (m:=1) (.inr rfl);obtain⟨H,T,E,_⟩:=No d e a h.1 h.2 (m:=1) (.inr rfl);refine⟨((min l n,max r o),min G t,max V H),?_,?_⟩
 ·unfold Dz;rw[W,a2,z,s];refine(gP ⟨rfl,rfl,rfl,rfl,trivial⟩).trans ?_;rw[lE];refine(gP ⟨j,trivial⟩).trans ?_;rw[lE];refine(if_neg ?_).trans ?_
  ·show ¬(decide ((0:Int)<0)&&_)=true;simp
  ·show GJ (j9 b) q sp (min l n,max r o)=_;rw[GJ,P,u,Q,T];rfl
 ·unfold Im;rw[X,y,f1,x,w,Y,F,E];rfl
section
variable {b:j1}
theorem q0W(_:u3 b=true){q:Int}(f:j2 q 0 (((lV b).length:Int)-1)=true){a:F5}{n:Nat}(h:Nl b ((lV b).getD q.toNat (a7 y138)) a n){V:Int->Int->Int}(j:Nr (a.2.2.2.2.1.getD (((lV b).getD q.toNat (a7 y138)).2.1.tmod 2).toNat (a7 y269)) ((A3 b n).getD 0 0) V)(i:∀s m,V s m<=1000000){c:r5}(o:J1 c=true)(s m:Int) :
  M7 (j9 b) c q s m=some (p7 (V s m*B9 c ((lV b).getD q.toNat (a7 y138)).2.2.1 m) 1000 m):=by
 have f:=A4.1 f;have e:ix q (j9 b).2.2.1.length:=⟨f.1,by show q < ((lV b).length:Int); omega⟩;generalize hl:(lV b).getD q.toNat (a7 y138)=l at h j;have g:(j9 b).2.2.1.getD q.toNat (a7 y138)=l:=hl;have E:=j.pos s m;have z:=i s m;have w:=DP o l.2.2.1 m;have v:=K8 (A:=1000000) (B:=5000) (x:=V s m) (y:=B9 c l.2.2.1 m) (by omega) (by omega) (by omega) (by omega) (by decide);have u:=U4 (V s m*B9 c l.2.2.1 m) 1000 m (by omega) (by omega) (by decide);have d:Av (V s m) (B9 c l.2.2.1 m) m=some (p7 (V s m*B9 c l.2.2.1 m) 1000 m):=by
  unfold Av;rw[u.1,vS,gP ⟨oo,rfl,trivial⟩,lE]
 obtain⟨r,F⟩:=CU h.del h.trs;obtain⟨k,t⟩:=Hv b h.nlt;unfold M7;refine(gP ⟨e,trivial⟩).trans ?_;rw[lE,g,Y8 h.pix h.net,vS,gP ⟨rfl,trivial⟩,lE];refine(if_pos (by rw[h.kind]; rfl)).trans ?_;rw[Hq h,vS,k,j.val,vS];refine(gP ⟨rfl,by decide,r,t,rfl,trivial⟩).trans ?_;rw[lE];show Aw c l m (V s m)=_;rw[Aw,Np,vS,d,vS,gP ⟨rfl,rfl,trivial⟩,lE]
theorem Qw(_:u3 b=true){T:List o5}(c:H6 T true=true){x:Int}(h:x=0∨x=1)(l:Int):∃V,Nr (T.getD x.toNat (a7 y269)) l V/\∀s m,V s m<=1000000:=by
 obtain⟨e,f⟩:=CU c h;have a:x.toNat<T.length:=by have:=e.1; have:=e.2; omega
 obtain⟨V,g⟩:=C0U f (Qr c (K7 (d:=a7 y269) a)) l;refine⟨V,g,fun s m=>?_⟩;obtain⟨r,i,_,_,j⟩:=Jk f s l m;have:=g.val s m;rw[i] at this;cases this;exact j
theorem x0f(_:wf j6 b)(i:u3 b=true){q:Int}(Y:j2 q 0 (((lV b).length:Int)-1)=true){s:Int}(T:0<=s)(Q:s<=1000000):∃r z,F9 (j9 b) q s 0=some r/\F9 (j9 b) q s 1=some z/\r<=z:=by
 obtain⟨y,E⟩:=UT Y;have d:ix q (j9 b).2.2.1.length:=y;have e:(lV b).getD q.toNat (a7 y138)∈lV b:=K7 E;rcases Hp i e with ⟨a,n,h⟩ | ⟨n,k,h⟩
 ·obtain⟨V,t,o⟩:=Qw i h.slw h.trs ((A3 b n).getD 0 0);obtain⟨u,G⟩:=CU h.slw h.trs;obtain⟨g,f⟩:=Hv b h.nlt;generalize hl:(lV b).getD q.toNat (a7 y138)=l at h t u G g f;have c:(j9 b).2.2.1.getD q.toNat (a7 y138)=l:=hl;have val:∀m,F9 (j9 b) q s m=some (V s m):=fun m=>by
   unfold F9;refine(gP ⟨d,trivial⟩).trans ?_;rw[lE,c,Y8 h.pix h.net,vS,gP ⟨rfl,trivial⟩,lE];refine(if_pos (by rw[h.kind]; rfl)).trans ?_;rw[Hq h,vS,g,t.val,vS];refine(gP ⟨rfl,by decide,u,f,rfl,trivial⟩).trans ?_;rw[lE];have:=o s m;have:min (V s m) 1000000=V s m:=by omega
   rw[this]
  exact⟨_,_,val 0,val 1,t.two s⟩
 ·have W:=Bv i h.nlt;obtain⟨dl,P⟩:=W.delays;have v:=P (r9 b n k).toNat;obtain⟨g,f⟩:=Hw b h.nlt;have F:=Hl b n;have j:=h.klt;generalize hl:(lV b).getD q.toNat (a7 y138)=l at h;have c:(j9 b).2.2.1.getD q.toNat (a7 y138)=l:=hl;obtain⟨r,z,H,x,w3⟩:=s0L T Q v.1 v.2;have val:∀m r,V0 s ((A7 b n).getD (r9 b n k).toNat 0) m=some r->F9 (j9 b) q s m=some (min r 1000000):=fun m r w=>by
   unfold F9;refine(gP ⟨d,trivial⟩).trans ?_;rw[lE,c,Y8 h.pix h.net,vS,gP ⟨rfl,trivial⟩,lE];refine(if_neg (by rw[h.kind]; decide)).trans ?_;rw[g,h.idx];have X:((k:Int)).toNat=k:=rfl;rw[X,Hk j,w,vS];refine(gP ⟨f,oo,rfl,trivial⟩).trans ?_;rw[lE]
  exact⟨_,_,val 0 r H,val 1 z x,by omega⟩
end
theorem s0K{xs:List Int}(x:Int)(h:H5 xs=true):∃p:Nat,p<xs.length/\((A5 xs x=xs.getD p 0/\P2 xs x=some ([((p:Int),1)],1)) ∨
  (p+1<xs.length/\xs.getD p 0<A5 xs x/\A5 xs x<xs.getD (p+1) 0/\P2 xs x=some ([((p:Int),xs.getD (p+1) 0-A5 xs x),((p:Int)+1,A5 xs x-xs.getD p 0)],(xs.getD (p+1) 0-A5 xs x)+(A5 xs x-xs.getD p 0)))):=by
 obtain⟨s,t⟩:=CO h;have g:((xs.length:Int)-1).toNat=xs.length-1:=by omega
 have o:xs.getD 0 0<=A5 xs x:=by
  have:xs.getD 0 0<=xs.getD (xs.length-1) 0:=by
   by_cases v:xs.length=1
   ·grind
   ·have:=CT h (by omega:0<xs.length-1) (by omega); omega
  unfold A5; omega
 have i:A5 xs x<=xs.getD (xs.length-1) 0:=by unfold A5; omega
 obtain⟨p,a,e,d⟩:=v0O h o i;by_cases f:xs.getD p 0=A5 xs x
 ·refine⟨p,a,.inl ⟨f.symm,?_⟩⟩;unfold P2;rw[gP ⟨oo,oo,oo,trivial⟩,g];change lt (A5 xs x) _=_;rw[lE,Nn (by omega) a e d,gP ⟨rfl,trivial⟩,vS,lE,if_pos (by simpa using f)]
 ·have c:A5 xs x<xs.getD p 0:=by have:=d p (Nat.le_refl _) a; omega
  have j:0<p:=by
   apply Nat.pos_of_ne_zero;intro m; subst m; omega
  obtain⟨q,rfl⟩:∃q,p=q+1:=⟨p-1,by omega⟩;have b:=e q (by omega);have u:=Nk h a;have r:=Nk h (by omega:q<xs.length);have n:(((q+1:Nat):Int))-1=(q:Int):=by omega
  have k:(((q+1:Nat):Int)).toNat=q+1:=rfl;have l:((q:Int)).toNat=q:=rfl;refine⟨q,by omega,.inr ⟨a,b,c,?_⟩⟩;unfold P2;rw[gP ⟨oo,oo,oo,trivial⟩,g];change lt (A5 xs x) _=_;rw[lE,Nn (by omega) a e d,gP ⟨rfl,trivial⟩,vS,lE,if_neg (by grind)];simp only[n,k,l];refine(gP ⟨oo,oo,oo,oo,oo,oo,oo,oo,oo,oo,trivial⟩).trans ?_;rw[lE]
  grind
theorem u0U{t:o5}(ht:C5 t=true)(hp:∀i,i<t.2.2.length->0<=t.2.2.getD i 0)(aA:∀r q,r+1<t.1.length->q<t.2.1.length->J8 t r q<=J8 t (r+1) q)(l:Int){V:Int->Int->Int}(hV:Nr t l V){s n m:Int}(hm:m=0∨m=1)(hs:s<=n):V s m<=V n m:=by
 have u:H5 t.1=true/\H5 t.2.1=true:=by
  simp only[C5,ba] at ht;exact⟨ht.1.1.1,ht.1.1.2⟩
 obtain⟨q,c,d,M,hq,hM,h3,h4⟩:=Hu l u.2;have v:0<=c/\0<=d/\1<=c+d/\c+d<=100000/\(d≠0->q+1<t.2.1.length):=by
  rcases hM with ⟨rfl,rfl,_⟩ | ⟨_,_,_,_,_⟩ <;> omega
 have Q:∀r,0<=l8 t r q 1 c d:=fun r=>Qs hp (by decide) v.1 v.2.1;have aB:∀r,r+1<t.1.length->l8 t r q 1 c d<=l8 t (r+1) q 1 c d:=fun r hr=>by
  unfold l8;rw[Int.mul_one,Int.mul_one,Int.mul_one,Int.mul_one];have x1:=Int.mul_le_mul_of_nonneg_right (aA r q hr hq) v.1;have x2:J8 t r (q+1)*d<=J8 t (r+1) (q+1)*d:=by
   by_cases hz:d=0
   ·rw[hz,Int.mul_zero,Int.mul_zero]; exact Int.le_refl _
   ·exact Int.mul_le_mul_of_nonneg_right (aA r (q+1) hr (v.2.2.2.2 hz)) v.2.1
  omega
 have aH:∀k r,r+k<t.1.length->l8 t r q 1 c d<=l8 t (r+k) q 1 c d:=by
  intro k
  induction k with
  | zero=>intro r _; exact Int.le_refl _
  | succ k ih =>
    intro r hr;have:=ih r (by omega);have:=aB (r+k) (by omega);rw[show r+(k+1)=r+k+1 by omega];omega
 have f:∀i j,i<=j->j<t.1.length->l8 t i q 1 c d<=l8 t j q 1 c d:=fun i j g P=>by
  have:=aH (j-i) i (by omega);rw[show i+(j-i)=j by omega] at this;exact this
 have F:∀{s:Int} {p:Nat},p<t.1.length->P2 t.1 s=some ([((p:Int),1)],1)->V s m=p7 (l8 t p q 1 c d) (c+d) m:=fun {s p} E h2=>by
  have Y:=Qu ht hp (a:=1) (b:=0) E (.inl ⟨rfl,rfl,rfl⟩) h2 hq hM h4 m;rw[hV.val] at Y;rw[Option.some.inj Y,if_pos rfl,Int.add_zero,Int.add_zero,Int.one_mul]
 have G:∀{s:Int} {p:Nat} {a b:Int},p+1<t.1.length->0<a->0<b->a+b<=100000->P2 t.1 s=some ([((p:Int),a),((p:Int)+1,b)],a+b)->V s m=p7 (a*l8 t p q 1 c d+b*l8 t (p+1) q 1 c d) ((a+b)*(c+d)) m:=fun {s p a b} E X W aF h2=>by
  have Y:=Qu ht hp (a:=a) (b:=b) (show p<t.1.length by omega) (.inr ⟨E,X,W,aF,rfl⟩) h2 hq hM h4 m;rw[hV.val] at Y;rw[Option.some.inj Y,if_neg (by omega),Nq t p q a,Nq t (p+1) q b]
 have c9:∀{a b:Int},1<=a+b->0 < (a+b)*(c+d):=fun h=>Int.mul_pos (by omega) (by omega);have w:∀{a b:Int} (p:Nat),0<=a->0<=b->0<=a*l8 t p q 1 c d+b*l8 t (p+1) q 1 c d:=fun p X W=>by
  have:=Int.mul_nonneg X (Q p);have:=Int.mul_nonneg W (Q (p+1));omega
 -- below a line, above a line
 have up:∀{a b:Int} (p i:Nat),0<a->0<b->p+1<=i->i<t.1.length->p7 (a*l8 t p q 1 c d+b*l8 t (p+1) q 1 c d) ((a+b)*(c+d)) m<=p7 (l8 t i q 1 c d) (c+d) m:=fun {a b} p i X W H hi=>by
  refine Jm (w p (by omega) (by omega)) (c9 (by omega)) (Q i) (by omega) ?_ hm;have x1:=Int.mul_le_mul_of_nonneg_left (f p i (by omega) hi) (show 0<=a by omega);have x2:=Int.mul_le_mul_of_nonneg_left (f (p+1) i H hi) (show 0<=b by omega);have x3:a*l8 t p q 1 c d+b*l8 t (p+1) q 1 c d<=(a+b)*l8 t i q 1 c d:=by rw[Int.add_mul]; omega
  have:=Int.mul_le_mul_of_nonneg_right x3 (show 0<=c+d by omega);rw[<- Int.mul_assoc,Int.mul_comm (l8 t i q 1 c d)];exact this
 have dn:∀{a b:Int} (p i:Nat),0<a->0<b->i<=p->p+1<t.1.length->p7 (l8 t i q 1 c d) (c+d) m<=p7 (a*l8 t p q 1 c d+b*l8 t (p+1) q 1 c d) ((a+b)*(c+d)) m:=fun {a b} p i X W H hi=>by
  refine Jm (Q i) (by omega) (w p (by omega) (by omega)) (c9 (by omega)) ?_ hm;have x1:=Int.mul_le_mul_of_nonneg_left (f i p H (by omega)) (show 0<=a by omega);have x2:=Int.mul_le_mul_of_nonneg_left (f i (p+1) (by omega) hi) (show 0<=b by omega);have x3:(a+b)*l8 t i q 1 c d<=a*l8 t p q 1 c d+b*l8 t (p+1) q 1 c d:=by rw[Int.add_mul]; omega
  have:=Int.mul_le_mul_of_nonneg_right x3 (show 0<=c+d by omega);rw[<- Int.mul_assoc,Int.mul_comm (l8 t i q 1 c d)];exact this
 have aG:∀i j,i<=j->j<t.1.length->p7 (l8 t i q 1 c d) (c+d) m<=p7 (l8 t j q 1 c d) (c+d) m:=fun i j g P=>Jm (Q i) (by omega) (Q j) (by omega) (Int.mul_le_mul_of_nonneg_right (f i j g P) (show 0<=c+d by omega)) hm
 have hx:A5 t.1 s<=A5 t.1 n:=by unfold A5; omega
 have aC:=fun {i j:Nat} (g:i<j) (P:j<t.1.length)=>CT u.1 g P;have y:∀{i j:Nat},i<=j->j<t.1.length->t.1.getD i 0<=t.1.getD j 0:=fun {i j} g P=>by
  rcases Nat.eq_or_lt_of_le g with e | e
  ·rw[e]; exact Int.le_refl _
  ·have:=aC e P; omega
 obtain⟨p,p1,p2⟩:=s0K s u.1;obtain⟨o,x,aD⟩:=s0K n u.1;have T:=fun {i:Nat} (hi:i<t.1.length)=>Nk u.1 hi;rcases p2 with ⟨e1,w1⟩ | ⟨b1,b2,b3,w1⟩
 ·rw[F p1 w1];rcases aD with ⟨e2,z⟩ | ⟨c1,c2,c3,z⟩
  ·rw[F x z];refine aG p o ?_ x;rcases Nat.lt_or_ge o p with h | h
   ·have:=aC h p1; omega
   ·exact h
  ·have:=T (show o<t.1.length by omega);have:=T c1;rw[G c1 (by omega) (by omega) (by omega) z];refine dn o p (by omega) (by omega) ?_ c1;rcases Nat.lt_or_ge o p with h | h
   ·have:=y (show o+1<=p by omega) p1; omega
   ·exact h
 ·have:=T (show p<t.1.length by omega);have:=T b1;rw[G b1 (by omega) (by omega) (by omega) w1];rcases aD with ⟨e2,z⟩ | ⟨c1,c2,c3,z⟩
  ·rw[F x z];refine up p o (by omega) (by omega) ?_ x;rcases Nat.lt_or_ge p o with h | h
   ·exact h
   ·have:=y h (show p<t.1.length by omega); omega
  ·have:=T (show o<t.1.length by omega);have:=T c1;rw[G c1 (by omega) (by omega) (by omega) z];rcases Nat.lt_trichotomy p o with h | h | h
   ·refine Int.le_trans (up p (p+1) (by omega) (by omega) (Nat.le_refl _) b1) ?_;exact dn o (p+1) (by omega) (by omega) (by omega) c1
   ·subst h;refine Jm (w p (by omega) (by omega)) (c9 (by omega)) (w p (by omega) (by omega)) (c9 (by omega)) ?_ hm;have e1:(t.1.getD (p+1) 0-A5 t.1 s)+(A5 t.1 s-t.1.getD p 0)=(t.1.getD (p+1) 0-A5 t.1 n)+(A5 t.1 n-t.1.getD p 0):=by omega
    rw[e1];refine Int.mul_le_mul_of_nonneg_right ?_ (by have:=c9 (a:=t.1.getD (p+1) 0-A5 t.1 n) (b:=A5 t.1 n-t.1.getD p 0) (by omega); omega);obtain⟨k,hk⟩:∃k,A5 t.1 n=A5 t.1 s+k:=⟨A5 t.1 n-A5 t.1 s,by omega⟩;have x1:=Int.mul_le_mul_of_nonneg_left (aB p b1) (show 0<=k by omega);have x2:(t.1.getD (p+1) 0-A5 t.1 n)*l8 t p q 1 c d=(t.1.getD (p+1) 0-A5 t.1 s)*l8 t p q 1 c d-k*l8 t p q 1 c d:=by rw[<- Int.sub_mul]; congr 1; omega
    have x3:(A5 t.1 n-t.1.getD p 0)*l8 t (p+1) q 1 c d=(A5 t.1 s-t.1.getD p 0)*l8 t (p+1) q 1 c d+k*l8 t (p+1) q 1 c d:=by rw[<- Int.add_mul]; congr 1; omega
    omega
   ·have:=y (show o+1<=p by omega) (show p<t.1.length by omega); omega
theorem UK{a b:Int}(e:0<=a)(d:0<=b)(h:a*a<b*b):a<b:=by
 rcases Int.lt_or_le a b with c | c
 ·exact c
 ·have:=Int.mul_le_mul c c d (by omega);omega
theorem s0N{n R:Int}(h:Bx n R):n<=(500*P0 n 1 R)*(500*P0 n 1 R):=by
 obtain⟨c,g,f⟩:=h;have b:∀v,R<500*v∨(R<=500*v/\R*R=n)->n<=(500*v)*(500*v):=fun v a=>by
  rcases a with a | ⟨a,e⟩
  ·have:=Int.mul_le_mul (show R+1<=500*v by omega) (show R+1<=500*v by omega) (by omega) (by omega);omega
  ·have:=Int.mul_le_mul a a c (by omega);omega
 refine b _ ?_;unfold P0;split
 ·grind
 ·rename_i d;simp only[beq_self_eq_true,Bool.true_and,dq] at d;rw[By c (by decide)];omega
theorem s0M{n R w:Int}(h:Bx n R)(d:0<=w)(f:n<=(500*w)*(500*w)):P0 n 1 R<=w:=by
 obtain⟨b,i,g⟩:=h;unfold P0;split
 ·rename_i a;simp only[beq_self_eq_true,Bool.true_and,dq] at a;have:=UK b (show 0<=500*w by omega) (by omega)
  grind
 ·rename_i a;simp only[beq_self_eq_true,Bool.true_and,dq] at a;have e:R<=500*w:=by
   rcases Int.lt_or_le (500*w) R with c | c
   ·have:=Int.mul_lt_mul' (show 500*w<=R by omega) c (by omega) (by omega);omega
   ·exact c
  grind[By]
theorem l0b{n R:Int}(a:0<=R):0<=P0 n 1 R:=by
 grind[P0,Int.tdiv_eq_ediv_of_nonneg,By]
theorem o0f{n b R R' m:Int}(h:Bx n R)(a:Bx b R')(e:n<=b)(c:m=0∨m=1):P0 n m R<=P0 b m R':=by
 rcases c with rfl | rfl
 ·have d:R<=R':=by
   have:=UK h.1 (show 0<=R'+1 by have:=a.1; omega) (by have:=h.2.1; have:=a.2.2; omega);omega
  unfold P0;rw[if_neg (by simp),if_neg (by simp),DN h.1 (by decide),DN a.1 (by decide)];omega
 ·exact s0M h (l0b a.1) (by have:=s0N a; omega)
theorem r0r{s c d m:Int}(b:0<=s)(g:s<=c)(k:c<=1000000)(j:0<=d)(F:d<=301000000)(q:m=0∨m=1):∃r z,V0 s d m=some r/\V0 c d m=some z/\r<=z:=by
 have a:∀s,0<=s->s<=1000000->∃R,Bx (250000*(s*s)+d*d) R/\V0 s d m=some (P0 (250000*(s*s)+d*d) m R):=fun s b k=>by
  obtain⟨w,H,G⟩:=Qo s d;have g:=K8 (A:=1000000) (B:=1000000) (x:=s) (y:=s) (by omega) (by omega) (by omega) (by omega) (by decide);have Q:=K8 (A:=301000000) (B:=301000000) (x:=d) (y:=d) (by omega) (by omega) (by omega) (by omega) (by decide);have o:0<=s*s:=Int.mul_nonneg b b;have u:0<=d*d:=Int.mul_nonneg j j;obtain⟨R,f,l,t⟩:=UM (n:=250000*(s*s)+d*d) (by omega) (by omega);have h:=f.1;have E:=K8 (A:=3000000000) (B:=3000000000) (x:=R) (y:=R) (by omega) (by omega) (by omega) (by omega) (by decide);refine⟨R,f,?_⟩;unfold V0;rw[w,t,vS,gP ⟨oo,oo,oo,oo,oo,trivial⟩,gP ⟨rfl,trivial⟩,lE,gP ⟨(fun _=>oo),trivial⟩];unfold P0;split
  ·have:R.tdiv 500=R / 500:=Int.tdiv_eq_ediv_of_nonneg h;exact gP ⟨by decide,oo,trivial⟩
  ·rw[(U4 R 500 m (by omega) (by omega) (by decide)).1,vS,gP ⟨rfl,trivial⟩,lE]
 obtain⟨R,f,e⟩:=a s b (by omega);obtain⟨P,i,v⟩:=a c (by omega) k;refine⟨_,_,e,v,o0f f i ?_ q⟩;have:=Int.mul_le_mul g g b (by omega);omega
variable {b:j1}
theorem H0U(t:u3 b=true){c:r5}(r:J1 c=true){q:Int}(P:j2 q 0 (((lV b).length:Int)-1)=true) :
  ∃d:Int->Int->Int,(∀s m,M7 (j9 b) c q s m=some (d s m))/\∀s,d s 0<=d s 1:=by
 obtain⟨X,Y⟩:=UT P;have j:(lV b).getD q.toNat (a7 y138)∈lV b:=K7 Y;have u:=fun k=>DP r k 0;have e:∀k,B9 c k 0<=B9 c k 1:=fun k=>by
  have h:=r;unfold J1 at h;simp only[ba,dq] at h;unfold B9;have W:((0:Int)==0)=true:=rfl;have e1:((1:Int)==0)=false:=rfl;rw[W,e1];split <;> simp only[if_true,Bool.false_eq_true,if_false] <;> omega
 rcases Hp t j with ⟨a,n,h⟩ | ⟨n,k,h⟩
 ·obtain⟨T,H⟩:=CU h.del h.trs;obtain⟨E,w,_⟩:=FJ H;obtain⟨V,o,G⟩:=Qw t h.del h.trs ((A3 b n).getD 0 0);have g:=fun s m=>q0W t P h o G r s m;generalize hlk:(lV b).getD q.toNat (a7 y138)=l at h o g T H E w;refine⟨fun s m=>p7 (V s m*B9 c l.2.2.1 m) 1000 m,g,fun s=>?_⟩;refine UW (Int.mul_nonneg (o.pos _ _) (u _).1) ?_;exact Int.le_trans (Int.mul_le_mul_of_nonneg_right (o.two s) (u _).1) (u0C (o.pos _ _) (e _))
 ·have no:=Bv t h.nlt;obtain⟨dl,db⟩:=no.delays;have g:=db (r9 b n k).toNat;obtain⟨E,w⟩:=Hw b h.nlt;have aA:=Hl b n;have z:=h.klt;have e4:((k:Int)).toNat=k:=rfl;have Q:=fun m=>FR (a:=(A7 b n).getD (r9 b n k).toNat 0) (b:=1000) (K:=301000) m (by decide) (by omega) (by omega);have f:=fun m=>Jl (a:=(A7 b n).getD (r9 b n k).toNat 0) (b:=1000) m (by omega) (by decide);generalize hlk:(lV b).getD q.toNat (a7 y138)=l at h;have v:(j9 b).2.2.1.getD q.toNat (a7 y138)=l:=hlk;have i:∀s m,M7 (j9 b) c q s m=some (p7 (p7 ((A7 b n).getD (r9 b n k).toNat 0) 1000 m*B9 c l.2.2.1 m) 1000 m):=fun s m=>by
   have p0:=f m;have p1:=Q m;have hf:=DP r l.2.2.1 m;have hp:=K8 (A:=1000000) (B:=5000) (x:=p7 ((A7 b n).getD (r9 b n k).toNat 0) 1000 m) (y:=B9 c l.2.2.1 m) (by omega) (by omega) (by omega) (by omega) (by decide);have g:=U4 (p7 ((A7 b n).getD (r9 b n k).toNat 0) 1000 m*B9 c l.2.2.1 m) 1000 m (by omega) (by omega) (by decide);have F:Av (p7 ((A7 b n).getD (r9 b n k).toNat 0) 1000 m) (B9 c l.2.2.1 m) m=some (p7 (p7 ((A7 b n).getD (r9 b n k).toNat 0) 1000 m*B9 c l.2.2.1 m) 1000 m):=by
    unfold Av;rw[g.1,vS,gP ⟨oo,rfl,trivial⟩,lE]
   unfold M7;refine(gP ⟨X,trivial⟩).trans ?_;rw[lE,v,Y8 h.pix h.net,vS,gP ⟨rfl,trivial⟩,lE];refine(if_neg (by rw[h.kind]; decide)).trans ?_;rw[E,h.idx,e4,Hk z,(U4 _ 1000 m (by omega) (by omega) (by decide)).1,vS];refine(gP ⟨w,oo,rfl,trivial⟩).trans ?_;rw[lE];show Aw c l m _=_;rw[Aw,Np,vS,F,vS,gP ⟨rfl,rfl,trivial⟩,lE]
  refine⟨fun s m=>p7 (p7 ((A7 b n).getD (r9 b n k).toNat 0) 1000 m*B9 c l.2.2.1 m) 1000 m,i,fun s=>?_⟩;refine UW (Int.mul_nonneg (f 0) (u _).1) ?_;exact Int.le_trans (Int.mul_le_mul_of_nonneg_right (UW g.1 (Int.le_refl _)) (u _).1) (u0C (f 1) (e _))
theorem x0g{b:j1}(z:wf j6 b)(w:u3 b=true){q:Int}(v:j2 q 0 (((lV b).length:Int)-1)=true){s m:Int}(P:0<=s)(H:s<=1000000)(Q:m=0∨m=1){r:Int}(i:F9 (j9 b) q s m=some r):0<=r:=by
 have v:=A4.1 v;have e:ix q (j9 b).2.2.1.length:=⟨v.1,by show q < ((lV b).length:Int); omega⟩;generalize hl:(lV b).getD q.toNat (a7 y138)=l;have d:(j9 b).2.2.1.getD q.toNat (a7 y138)=l:=hl;have f:l∈lV b:=by rw[<- hl]; exact K7 (by omega)
 rcases Hp w f with ⟨a,n,h⟩ | ⟨n,k,h⟩
 ·obtain⟨j,y⟩:=CU h.slw h.trs;obtain⟨g,x,l2,l3,Y⟩:=Jk y s ((A3 b n).getD 0 0) m;obtain⟨u,o⟩:=Hv b h.nlt;have t:(l.2.1.tmod 2).toNat<a.2.2.2.2.2.length:=by have:=j.1; have:=j.2; omega
  have X:=q0G y (Qr h.slw (K7 t)) s ((A3 b n).getD 0 0) m g x;have c:F9 (j9 b) q s m=some (min g 1000000):=by
   unfold F9;refine(gP ⟨e,trivial⟩).trans ?_;rw[lE,d,Y8 h.pix h.net,vS,gP ⟨rfl,trivial⟩,lE];refine(if_pos (by rw[h.kind]; rfl)).trans ?_;rw[Hq h,vS,u,x,vS];refine(gP ⟨rfl,by decide,j,o,rfl,trivial⟩).trans ?_;rw[lE]
  rw[c] at i;cases i;omega
 ·obtain⟨g,G,V,W⟩:=H0k z w h.nlt h.klt P H Q;obtain⟨u,o⟩:=Hw b h.nlt;have E:=Hl b n;have F:=h.klt;have c:F9 (j9 b) q s m=some (min g 1000000):=by
   unfold F9;refine(gP ⟨e,trivial⟩).trans ?_;rw[lE,d,Y8 h.pix h.net,vS,gP ⟨rfl,trivial⟩,lE];refine(if_neg (by rw[h.kind]; decide)).trans ?_;rw[u,h.idx];have T:((k:Int)).toNat=k:=rfl;rw[T,G,vS];refine(gP ⟨o,oo,rfl,trivial⟩).trans ?_;rw[lE]
  rw[c] at i;cases i;omega
section
variable {b:j1}
end
end Go.Proofs.YtechodbafnmddaaGreatDoor
end
section
namespace Go.Proofs.Xd
open Go.Proofs.Xl
theorem q0R{b:Type}{l:List b}{p q:b->Bool}(h:∀a∈l,p a=q a):l.find? p=l.find? q:=by
 induction l with
 | nil=>rfl
 | cons a r c =>
   grind
theorem n0F{b:Type}(l:List b)(p q r:b->Bool)(h:∀a∈l,(p a).toNat=(q a).toNat+(r a).toNat):l.countP p=l.countP q+l.countP r:=by
 induction l with
 | nil=>rfl
 | cons a t c =>
   grind
theorem s0e{b:Type}(l:List b)(p q:b->Bool)(h:∀a∈l,p a=q a):l.countP p=l.countP q:=by
 induction l with
 | nil=>rfl
 | cons a t c =>
   grind
section
variable (M N:Nat) (fr to:Nat->Nat) (lv:Nat->Bool)
def Cm(out:List Nat)(v:Nat):Nat:=(List.range M).countP fun i=>lv i&&to i==v&&!out.contains (fr i)
def Hx(o:List Int)(i:Nat):List Int:=o.set (to i) (o.getD (to i) 0-1)
def FT(o:List Int)(i:Nat):List Int:=o.set (to i) (o.getD (to i) 0+1)
def Jn:List Int:=((List.range M).filter lv).foldl (FT to) (List.replicate N 0)
def Ns(o:List Int)(v:Nat):List Int:=((List.range M).filter fun i=>lv i&&fr i==v).foldl (Hx to) (o.set v (-1))
def CV(out:List Nat):List Int:=out.foldl (Ns M fr to lv) (Jn M N to lv)
def U5(out:List Nat):Option Nat:=(List.range N).find? fun v=>!out.contains v&&Cm M fr to lv out v==0
def Hy:Nat->List Nat->Option (List Nat)
 | 0,out=>some out
 | k+1,out=>match U5 M N fr to lv out with
   | none=>none
   | some v=>Hy k (out++[v])
theorem n0a(a:List Nat)(v:Nat):CV M N fr to lv (a++[v])=Ns M fr to lv (CV M N fr to lv a) v:=by
 grind[CV]
theorem Nt{o:List Int}{i v:Nat}(x:Int)(hi:i<o.length):(o.set i x).getD v 0=if v=i then x else o.getD v 0:=by
 grind
theorem D0u(a:List Nat)(o:List Int)(h:∀i∈a,to i<o.length)(v:Nat):(a.foldl (Hx to) o).length=o.length/\(a.foldl (Hx to) o).getD v 0=o.getD v 0-(a.countP fun i=>to i==v):=by
 induction a generalizing o with
 | nil=>simp
 | cons i r b =>
   grind[Hx,Nt]
theorem D0e(a:List Nat)(o:List Int)(h:∀i∈a,to i<o.length)(v:Nat):(a.foldl (FT to) o).length=o.length/\(a.foldl (FT to) o).getD v 0=o.getD v 0+(a.countP fun i=>to i==v):=by
 induction a generalizing o with
 | nil=>simp
 | cons i r b =>
   grind[FT,Nt]
variable {M N fr to lv}
theorem k0Q(p:Nat->Bool):(List.range M).countP p<=M:=by
 grind[List.countP_le_length,List.range,List.length_range]
theorem u0r(d:∀i,i<M->to i<N)(v:Nat):(Jn M N to lv).length=N/\(Jn M N to lv).getD v 0=Cm M fr to lv [] v:=by
 have a:∀i∈(List.range M).filter lv,to i < (List.replicate N (0:Int)).length:=fun i hi=>by
  grind
 obtain⟨e,c⟩:=D0e to ((List.range M).filter lv) (List.replicate N 0) a v;refine⟨by grind[Jn,List.length_replicate],?_⟩;rw[Jn,c,List.countP_filter];have b:(List.replicate N (0:Int)).getD v 0=0:=by
  rw[gq,List.getElem?_replicate];split <;> rfl
 rw[b,Int.zero_add];congr 1;refine s0e _ _ _ (fun i _=>?_)
 grind
structure Nu(M N:Nat)(fr to:Nat->Nat)(lv:Nat->Bool)(out:List Nat)(o:List Int):Prop where
 len:o.length=N
 un:∀v,v<N->v ∉ out->o.getD v 0=Cm M fr to lv out v
 li:∀v,v<N->v∈out->o.getD v 0<0
 lo:∀v,v<N -> -(1+(out.length:Int)*M)<=o.getD v 0
 hi:∀v,v<N->o.getD v 0<=M
theorem y0v{a:List Nat}{v:Nat}(b:v ∉ a)(w:Nat):Cm M fr to lv a w=((List.range M).countP fun i=>to i==w&&(lv i&&fr i==v))+Cm M fr to lv (a++[v]) w:=by
 unfold Cm;refine n0F _ _ _ _ (fun i _=>?_)
 grind
theorem B0k(b:∀i,i<M->to i<N):Nu M N fr to lv [] (Jn M N to lv):=by
 have h:=fun v=>u0r (fr:=fr) (lv:=lv) b v;refine⟨(h 0).1,fun v _ _=>(h v).2,fun v _ a=>(nomatch a),fun v _=>?_,fun v _=>?_⟩
 ·grind
 grind[Cm,k0Q]
theorem u0t(m:∀i,i<M->to i<N){a:List Nat}{o:List Int}(h:Nu M N fr to lv a o){v:Nat}(s:v<N)(l:v ∉ a):Nu M N fr to lv (a++[v]) (Ns M fr to lv o v):=by
 have k:(o.set v (-1)).length=N:=by rw[List.length_set,h.len]
 have g:=fun w=>D0u to ((List.range M).filter fun i=>lv i&&fr i==v) (o.set v (-1)) (fun i hi=>by
  rw[List.mem_filter,List.mem_range] at hi;rw[k];exact m i hi.1) w
 have d:∀w,(Ns M fr to lv o v).getD w 0=(if w=v then -1 else o.getD w 0)-((List.range M).countP fun i=>to i==w&&(lv i&&fr i==v)):=fun w=>by
  grind[Ns,Nt,List.countP_filter]
 have j:∀w,(((List.range M).countP fun i=>to i==w&&(lv i&&fr i==v):Nat):Int)<=M:=fun w=>by
  have:=k0Q (M:=M) (fun i=>to i==w&&(lv i&&fr i==v));omega
 have c:((a++[v]).length:Int)*M=(a.length:Int)*M+M:=by
  rw[List.length_append,List.length_singleton,Int.natCast_add,Int.add_mul];simp
 have r:(0:Int)<=(a.length:Int)*M:=Int.mul_nonneg (Int.natCast_nonneg _) (Int.natCast_nonneg _);refine⟨(g 0).1.trans k,fun w b f=>?_,fun w b f=>?_,fun w b=>?_,fun w b=>?_⟩
 ·rw[d,if_neg (fun e=>f (by simp[e])),h.un w b (fun e=>f (by simp[e])),y0v l w];omega
 ·rw[d];by_cases e:w=v
  ·omega
  ·rw[if_neg e];have:=h.li w b (by
    grind)
   omega
 ·rw[d,c];have q:=j w;have n:=h.lo w b;omega
 ·rw[d];have q:=j w;have n:=h.hi w b;omega
theorem u0u{a:List Nat}{o:List Int}(h:Nu M N fr to lv a o):(List.range o.length).find? (fun v=>(0:Int)==o.getD v 0)=U5 M N fr to lv a:=by
 unfold U5;rw[h.len];refine q0R (fun v b=>?_);have b:=List.mem_range.1 b;by_cases c:v∈a
 ·have e:=h.li v b c;have d:a.contains v=true:=List.contains_iff_mem.2 c;have f:((0:Int)==o.getD v 0)=false:=beq_eq_false_iff_ne.2 (by omega);rw[d,f]; rfl
 ·have e:=h.un v b c;have d:a.contains v=false:=by rw[<- Bool.not_eq_true,List.contains_iff_mem]; exact c
  rw[e,d,Bool.not_false,Bool.true_and,Bool.eq_iff_iff];simp only[beq_iff_eq];omega
theorem Qx{a:List Nat}{v:Nat}(h:U5 M N fr to lv a=some v):v<N/\v ∉ a:=by
 grind[U5]
def U6(N:Nat)(out:List Nat):List Bool:=out.foldl (fun l v=>l.set v true) (List.replicate N false)
theorem x0h{o:List Bool}{i v:Nat}(x:Bool)(hi:i<o.length):(o.set i x).getD v false=if v=i then x else o.getD v false:=by
 grind
theorem u0W(a:List Nat)(v:Nat):U6 N (a++[v])=(U6 N a).set v true:=by
 grind[U6]
theorem u0a(a:List Nat)(o:List Bool)(h:∀v∈a,v<o.length)(w:Nat):(a.foldl (fun l v=>l.set v true) o).length=o.length/\(a.foldl (fun l v=>l.set v true) o).getD w false=(a.contains w||o.getD w false):=by
 induction a generalizing o with
 | nil=>simp
 | cons v r b =>
   grind
theorem n0j{a:List Nat}(h:∀v∈a,v<N)(w:Nat):(U6 N a).length=N/\(U6 N a).getD w false=a.contains w:=by
 obtain⟨d,b⟩:=u0a a (List.replicate N false) (fun v c=>by grind) w
 grind[List.replicate,U6]
def FU(fr to:Nat->Nat)(lv:Nat->Bool)(out:List Nat)(k:Nat)(w:List Bool):List Bool:=if(lv k&&!out.contains (fr k))=true then w.set (to k) true else w
theorem p0r(c:∀i,i<M->to i<N)(a:List Nat)(v:Nat):∀m,m<=M->(fN (FU fr to lv a) m (List.replicate N false)).length=N/\(fN (FU fr to lv a) m (List.replicate N false)).getD v false=(List.range m).any fun i=>lv i&&to i==v&&!a.contains (fr i):=by
 intro m
 induction m with
 | zero =>
   intro _;refine⟨List.length_replicate,?_⟩;show(List.replicate N false).getD v false=false
   grind
 | succ m b =>
   grind[FU,fN,List.replicate]
theorem s0R(b:∀i,i<M->to i<N){a:List Nat}(c:∀v∈a,v<N):(List.range N).find? (fun v=>!((U6 N a).getD v false||(fN (FU fr to lv a) M (List.replicate N false)).getD v false))=U5 M N fr to lv a:=by
 unfold U5;refine q0R (fun v _=>?_);rw[(n0j c v).2,(p0r b a v M (Nat.le_refl _)).2,Bool.not_or]
 grind[Cm]
end
inductive Rch(M:Nat)(fr to:Nat->Nat)(lv:Nat->Bool)(s:Nat):Nat->Prop
 | refl:Rch M fr to lv s s
 | step {i:Nat}:Rch M fr to lv s (fr i)->i<M->lv i=true->Rch M fr to lv s (to i)
theorem Rch.trans{M:Nat}{fr d:Nat->Nat}{lv:Nat->Bool}{a b c:Nat}(h:Rch M fr d lv a b)(k:Rch M fr d lv b c):Rch M fr d lv a c:=by
 induction k with
 | refl=>exact h
 | step _ hi f e=>exact e.step hi f
theorem Rch.one{M:Nat}{fr a:Nat->Nat}{lv:Nat->Bool}{i:Nat}(hi:i<M)(b:lv i=true):Rch M fr a lv (fr i) (a i):=Rch.refl.step hi b
theorem Rch.head{M:Nat}{fr a:Nat->Nat}{lv:Nat->Bool}{i c:Nat}(hi:i<M)(b:lv i=true)(k:Rch M fr a lv (a i) c):Rch M fr a lv (fr i) c:=(Rch.one hi b).trans k
theorem Rch.back{M:Nat}{fr c:Nat->Nat}{lv:Nat->Bool}{a b:Nat}(h:Rch M fr c lv a b):Rch M c fr lv b a:=by
 induction h with
 | refl=>exact .refl
 | step _ hi e d=>grind[Rch.head]
theorem Rch.lt{M N:Nat}{fr c:Nat->Nat}{lv:Nat->Bool}(e:∀i,i<M->c i<N){a b:Nat}(h:Rch M fr c lv a b)(d:a<N):b<N:=by
 cases h with
 | refl=>exact d
 | step _ hi _=>grind
section
variable (M N:Nat) (fr to:Nat->Nat) (lv:Nat->Bool)
def RB(s:Nat)(L:List Bool):Prop:=L.length=N/\∀v,v<N->(L.getD v false=true↔Rch M fr to lv s v)
structure RI(s:Nat)(r:List Bool):Prop where
 len:r.length=N
 src:r.getD s false=true
 snd:∀v,r.getD v false=true->Rch M fr to lv s v
theorem RI.done{M N:Nat}{fr a:Nat->Nat}{lv:Nat->Bool}{s:Nat}{r:List Bool}(h:RI M N fr a lv s r)(d:∀i,i<M->lv i=true->r.getD (fr i) false=true->r.getD (a i) false=true):RB M N fr a lv s r :=
 ⟨h.len,fun v b=>⟨h.snd v,fun c=>by
   clear b
   induction c with
   | refl=>exact h.src
   | step _ hi f e=>grind⟩⟩
def T0p(r:List Bool):Nat:=(List.range M).countP fun i=>lv i&&!r.getD (fr i) false
structure QI(s:Nat)(q:List Int×List Bool):Prop where
 len:q.2.length=N
 mem:∀x∈q.1,0<=x/\x.toNat<N/\Rch M fr to lv s x.toNat
 snd:∀v,q.2.getD v false=true->Rch M fr to lv s v
 src:q.2.getD s false=true∨(s:Int)∈q.1
 cls:∀i,i<M->lv i=true->q.2.getD (fr i) false=true->q.2.getD (to i) false=true∨(to i:Int)∈q.1
 h9:q.1.length+T0p M fr lv q.2<=M+1
end
abbrev Sp:=Int×Int
abbrev D8:=Sp×Sp
def H0E(a b:Sp):Sp:=(min a.1 b.1,max a.2 b.2)
def Qy(a b:Sp):Sp:=(a.1+b.1,a.2+b.2)
def K0I(o:Option D8)(x:D8):Option D8:=match o with
 | none=>some x
 | some y=>some (H0E y.1 x.1,H0E y.2 x.2)
section
variable (M:Nat) (fr to:Nat->Nat) (lv:Nat->Bool) (sp:Nat->Sp->Sp×Sp) (src:Nat->Option D8)
def inK(T:Nat->Option D8)(v k:Nat)(o:Option D8):Option D8:=if(lv k&&to k==v)=true then(match T (fr k) with
 | none=>o
 | some x=>K0I o (Qy x.1 (sp k x.2).1,(sp k x.2).2)) else o
def H0x(T:Nat->Option D8)(v:Nat):Option D8:=fN (inK fr to lv sp T v) M (src v)
def N0e(T:Nat->Option D8)(v:Nat)(x:Option D8):Nat->Option D8:=fun w=>if w=v then x else T w
variable (ok:D8->Bool)
def okA(x:Option D8):Bool:=match x with
 | none=>true
 | some y=>ok y
def L0a:List Nat->(Nat->Option D8)->Option (Nat->Option D8)
 | [],T=>some T
 | v :: r,T=>if okA ok (H0x M fr to lv sp src T v)=true then L0a r (N0e T v (H0x M fr to lv sp src T v)) else none
end
section
variable {M:Nat} {fr to:Nat->Nat} {lv:Nat->Bool} {sp:Nat->Sp->Sp×Sp} {src:Nat->Option D8} {ok:D8->Bool}
def Nv(M:Nat)(fr to:Nat->Nat)(lv:Nat->Bool):List Nat->List Nat->Prop
 | _,[]=>True
 | d,v :: r=>(∀k,k<M->lv k=true->to k=v->fr k∈d)/\Nv M fr to lv (d++[v]) r
def M0A(a b:Sp):Prop:=b.1<=a.1/\a.2<=b.2
def insO(x y:Option D8):Prop:=∀a,x=some a->∃c,y=some c/\M0A a.1 c.1/\M0A a.2 c.2
theorem insO.refl(x:Option D8):insO x x:=fun a h=>⟨a,h,⟨Int.le_refl _,Int.le_refl _⟩,⟨Int.le_refl _,Int.le_refl _⟩⟩
theorem insO.none(y:Option D8):insO none y:=fun _ h=>by cases h
end
end Go.Proofs.Xd
end
section
namespace Go.Proofs.YtechodbafnmddaaGreatDoor
open Go Go.Proofs Go.Proofs.Sv Go.Proofs.Xv Go.Proofs.Xl Go.Proofs.Xd
structure SpanV(b:j1)(c:r5)(q:Int)(dv lv:Int->Int->Int):Prop where
 del:∀s m,M7 (j9 b) c q s m=some (dv s m)
 d0:∀s m,0<=dv s m/\dv s m<=5000000
 d2:∀s,dv s 0<=dv s 1
 slw:∀s m,0<=s->s<=1000000->m=0∨m=1->F9 (j9 b) q s m=some (lv s m)/\0<=lv s m/\lv s m<=1000000
 l2:∀s,0<=s->s<=1000000->lv s 0<=lv s 1
section
variable {b:j1}
theorem G0Y(n:wf j6 b)(_:h9 j6 b<=1048576)(a:u3 b=true){c:r5}(_:wf A0 c)(g:J1 c=true){q:Int}(f:j2 q 0 (((lV b).length:Int)-1)=true):∃dv lv,SpanV b c q dv lv:=by
 obtain⟨B,t⟩:=D0t a f;obtain⟨d,o,i⟩:=H0U a g f;have e:∀s m,d s m=p7 (B s m*B9 c ((lV b).getD q.toNat (a7 y138)).2.2.1 m) 1000 m:=fun s m=>by
  have u:=o s m;rw[t.val c g] at u
  grind
 refine⟨d,fun s m=>vl (F9 (j9 b) q s m),⟨o,fun s m=>?_,i,fun s m k j h=>?_,fun s k j=>?_⟩⟩
 ·rw[e];have E:=t.bd s m;have F:=DP g ((lV b).getD q.toNat (a7 y138)).2.2.1 m;have v:=Int.mul_nonneg E.1 F.1;have u:=K8 (A:=1000000) (B:=5000) (x:=B s m) (y:=B9 c ((lV b).getD q.toNat (a7 y138)).2.2.1 m) (by omega) (by omega) (by omega) (by omega) (by decide);exact⟨Jl m v (by decide),(FR (K:=5000000) m (by decide) (by omega) (by omega)).2⟩
 ·obtain⟨r,l,_,w⟩:=No n a f k j h;have z:=x0g n a f k j h l;show _=some (vl (F9 (j9 b) q s m))/\0<=vl (F9 (j9 b) q s m)/\vl (F9 (j9 b) q s m)<=1000000;rw[l];exact⟨rfl,z,w⟩
 grind[x0f,vl,F9,j9]
def FV(dv lv:Int->Int->Int)(sp:Sp):Sp×Sp:=((min (dv sp.1 0) (dv sp.2 0),max (dv sp.1 1) (dv sp.2 1)),min (lv sp.1 0) (lv sp.2 0),max (lv sp.1 1) (lv sp.2 1))
theorem SpanV.spans{c:r5}{q:Int}{a lv:Int->Int->Int}(h:SpanV b c q a lv)(j:j2 q 0 (((lV b).length:Int)-1)=true){sp:Sp}(e:K5 sp=true):Dz (j9 b) c q sp=some (FV a lv sp):=by
 unfold K5 at e;rw[ba,ba] at e;have f:=A4.1 e.1.2;have d:=A4.1 e.2;have i:=A4.1 j;have g:ix q (j9 b).2.2.1.length:=⟨i.1,by show q < ((lV b).length:Int); omega⟩;unfold Dz;rw[h.del,h.del,h.del,h.del];refine(gP ⟨rfl,rfl,rfl,rfl,trivial⟩).trans ?_;rw[lE];refine(gP ⟨g,trivial⟩).trans ?_;rw[lE];refine(if_neg ?_).trans ?_
 ·show ¬(decide ((0:Int)<0)&&_)=true;simp
 ·show GJ (j9 b) q sp (min (a sp.1 0) (a sp.2 0),max (a sp.1 1) (a sp.2 1))=_;rw[GJ,(h.slw sp.1 0 f.1 f.2 (.inl rfl)).1,(h.slw sp.2 0 d.1 d.2 (.inl rfl)).1,(h.slw sp.1 1 f.1 f.2 (.inr rfl)).1,(h.slw sp.2 1 d.1 d.2 (.inr rfl)).1];rfl
theorem SpanV.ok{c:r5}{q:Int}{a lv:Int->Int->Int}(h:SpanV b c q a lv){sp:Sp}(f:K5 sp=true):0<=(FV a lv sp).1.1/\(FV a lv sp).1.1<=(FV a lv sp).1.2/\(FV a lv sp).1.2<=5000000/\K5 (FV a lv sp).2=true:=by
 unfold K5 at f;rw[ba,ba] at f;have d:=A4.1 f.1.2;have e:=A4.1 f.2;have k:=h.d0 sp.1 0;have r:=h.d0 sp.2 0;have j:=h.d0 sp.1 1;have i:=h.d0 sp.2 1;have m:=h.d2 sp.1;have l:=(h.slw sp.1 0 d.1 d.2 (.inl rfl)).2;have s:=(h.slw sp.2 0 e.1 e.2 (.inl rfl)).2;have o:=(h.slw sp.1 1 d.1 d.2 (.inr rfl)).2;have n:=(h.slw sp.2 1 e.1 e.2 (.inr rfl)).2;have g:=h.l2 sp.1 d.1 d.2;unfold FV;refine⟨by grind,by grind,by grind,?_⟩;unfold K5 N7;simp only[ba,dq]
 grind[A4]
def Nw(t:o5):Prop:=∀r q,r+1<t.1.length->q<t.2.1.length->J8 t r q<=J8 t (r+1) q
def M0w(b:j1):Prop:=∀ce∈b.1,∀ar∈ce.2.2.2.1,(∀t∈ar.2.2.2.2.1,Nw t)/\∀t∈ar.2.2.2.2.2,Nw t
theorem y0A{l:u0}{a:F5}{n:Nat}(i:M0w b)(h:Nl b l a n):(∀t∈a.2.2.2.2.1,Nw t)/\∀t∈a.2.2.2.2.2,Nw t:=by
 have g:=h.cix;have f:=h.aix;have c:(l5 b.2.1 (x7 b.2.1 (l.2.1.tdiv 2).toNat).1.toNat).2.1.toNat<b.1.length:=by have:=g.1; have:=g.2; omega
 have e:l.2.2.2.toNat < (b.1.getD (l5 b.2.1 (x7 b.2.1 (l.2.1.tdiv 2).toNat).1.toNat).2.1.toNat (a7 y153)).2.2.2.1.length:=by have:=f.1; have:=f.2; omega
 have:=i _ (K7 (d:=a7 y153) c) _ (K7 (d:=a7 y158) e);rw[h.arc] at this;omega
theorem u0V{T:List o5}(e:H6 T true=true)(h:∀t∈T,Nw t){x:Int}(i:x=0∨x=1)(l:Int){s f m:Int}(j:m=0∨m=1)(k:s<=f){V:Int->Int->Int}(n:Nr (T.getD x.toNat (a7 y269)) l V):V s m<=V f m:=by
 obtain⟨c,g⟩:=CU e i;have b:x.toNat<T.length:=by have:=c.1; have:=c.2; omega
 have a:=K7 (d:=a7 y269) b;exact u0U g (Qr e a) (h _ a) l n j k
theorem SpanV.mono(_:wf j6 b)(E:u3 b=true)(hM:M0w b){c:r5}(Q:J1 c=true){q:Int}(hq:j2 q 0 (((lV b).length:Int)-1)=true){H lv:Int->Int->Int}(h:SpanV b c q H lv):(∀s s' m,s<=s'->m=0∨m=1->H s m<=H s' m)/\∀s s' m,0<=s->s<=s'->s'<=1000000->m=0∨m=1->lv s m<=lv s' m:=by
 obtain⟨x1,x2⟩:=UT hq;have u:ix q (j9 b).2.2.1.length:=x1;have v:(lV b).getD q.toNat (a7 y138)∈lV b:=K7 x2;rcases Hp E v with ⟨a,n,e⟩ | ⟨n,k,e⟩
 ·obtain⟨m1,m2⟩:=y0A hM e;obtain⟨V,hV,aG⟩:=Qw E e.del e.trs ((A3 b n).getD 0 0);obtain⟨W,hW,P⟩:=Qw E e.slw e.trs ((A3 b n).getD 0 0);have ed:∀s m,H s m=p7 (V s m*B9 c ((lV b).getD q.toNat (a7 y138)).2.2.1 m) 1000 m:=fun s m=>by
   have h1:=h.del s m
   grind[q0W,Option.some.inj]
  refine⟨fun s s' m i f=>?_,fun s s' m G i F f=>?_⟩
  ·rw[ed,ed];refine v0u m (Int.mul_nonneg (hV.pos _ _) (DP Q _ _).1) ?_;exact Int.mul_le_mul_of_nonneg_right (u0V e.del m1 e.trs _ f i hV) (DP Q _ _).1
  ·have aB:=u0V e.slw m2 e.trs _ f i hW;obtain⟨t1,t2⟩:=CU e.slw e.trs;obtain⟨t,j⟩:=Hv b e.nlt;have X:=(h.slw s m G (by omega) f).1;have T:=(h.slw s' m (by omega) F f).1;generalize hll:(lV b).getD q.toNat (a7 y138)=l at e hV hW t1 t2 t j aB;have g:(j9 b).2.2.1.getD q.toNat (a7 y138)=l:=hll;have val:∀s,F9 (j9 b) q s m=some (W s m):=fun s=>by
    unfold F9;refine(gP ⟨u,trivial⟩).trans ?_;rw[lE,g,Y8 e.pix e.net,vS,gP ⟨rfl,trivial⟩,lE];refine(if_pos (by rw[e.kind]; rfl)).trans ?_;rw[Hq e,vS,t,hW.val,vS];refine(gP ⟨rfl,by decide,t1,j,rfl,trivial⟩).trans ?_;rw[lE];have:=P s m;have:min (W s m) 1000000=W s m:=by omega
    rw[this]
   grind
 ·have no:=Bv E e.nlt;obtain⟨dl,db⟩:=no.delays;have hd:=db (r9 b n k).toNat;obtain⟨t,j⟩:=Hw b e.nlt;have aF:=Hl b n;have o:=e.klt;have e4:((k:Int)).toNat=k:=rfl;generalize hll:(lV b).getD q.toNat (a7 y138)=l at e;have g:(j9 b).2.2.1.getD q.toNat (a7 y138)=l:=hll;refine⟨fun s s' m i f=>?_,fun s s' m G i F f=>?_⟩
  ·have h1:=h.del s m;have h2:=h.del s' m;have hv:=FR (a:=(A7 b n).getD (r9 b n k).toNat 0) (b:=1000) (K:=301000) m (by decide) (by omega) (by omega);have aD:=Jl (a:=(A7 b n).getD (r9 b n k).toNat 0) (b:=1000) m (by omega) (by decide);have aC:∀s,M7 (j9 b) c q s m=some (p7 (p7 ((A7 b n).getD (r9 b n k).toNat 0) 1000 m*B9 c l.2.2.1 m) 1000 m):=fun s=>by
    have hf:=DP Q l.2.2.1 m;have hp:=K8 (A:=1000000) (B:=5000) (x:=p7 ((A7 b n).getD (r9 b n k).toNat 0) 1000 m) (y:=B9 c l.2.2.1 m) (by omega) (by omega) (by omega) (by omega) (by decide);have aA:=U4 (p7 ((A7 b n).getD (r9 b n k).toNat 0) 1000 m*B9 c l.2.2.1 m) 1000 m (by omega) (by omega) (by decide);have Y:Av (p7 ((A7 b n).getD (r9 b n k).toNat 0) 1000 m) (B9 c l.2.2.1 m) m=some (p7 (p7 ((A7 b n).getD (r9 b n k).toNat 0) 1000 m*B9 c l.2.2.1 m) 1000 m):=by
     unfold Av;rw[aA.1,vS,gP ⟨oo,rfl,trivial⟩,lE]
    unfold M7;refine(gP ⟨x1,trivial⟩).trans ?_;rw[lE,g,Y8 e.pix e.net,vS,gP ⟨rfl,trivial⟩,lE];refine(if_neg (by rw[e.kind]; decide)).trans ?_;rw[t,e.idx,e4,Hk o,(U4 _ 1000 m (by omega) (by omega) (by decide)).1,vS];refine(gP ⟨j,oo,rfl,trivial⟩).trans ?_;rw[lE];show Aw c l m _=_;rw[Aw,Np,vS,Y,vS,gP ⟨rfl,rfl,trivial⟩,lE]
   grind
  ·obtain⟨r,z,w1,w2,w3⟩:=r0r (d:=(A7 b n).getD (r9 b n k).toNat 0) (m:=m) G i F hd.1 hd.2 f;have val:∀s r,V0 s ((A7 b n).getD (r9 b n k).toNat 0) m=some r->F9 (j9 b) q s m=some (min r 1000000):=fun s r w=>by
    unfold F9;refine(gP ⟨u,trivial⟩).trans ?_;rw[lE,g,Y8 e.pix e.net,vS,gP ⟨rfl,trivial⟩,lE];refine(if_neg (by rw[e.kind]; decide)).trans ?_;rw[t,e.idx];rw[e4,Hk o,w,vS];refine(gP ⟨j,oo,rfl,trivial⟩).trans ?_;rw[lE]
   have X:=(h.slw s m G (by omega) f).1;have T:=(h.slw s' m (by omega) F f).1
   grind
end
end Go.Proofs.YtechodbafnmddaaGreatDoor
end
section
namespace Go.Proofs.Xd
open Go.Proofs.Xl
abbrev Qz:=List Bool×List Sp×List Sp
def M0C(N:Nat)(T:Nat->Option D8):Qz:=((List.range N).map fun v=>(T v).isSome,(List.range N).map fun v=>((T v).getD ((0,0),(0,0))).1,(List.range N).map fun v=>((T v).getD ((0,0),(0,0))).2)
def AJ(t:Qz):Nat->Option D8:=fun v=>if t.1.getD v false=true then some (t.2.1.getD v (0,0),t.2.2.getD v (0,0)) else none
def u5(s:Sp)(md:Int):Int:=if(md==0)=true then s.1 else s.2
def Jo(s:Option D8)(md:Int)(y:D8):Bool:=match s with
 | none=>false
 | some s=>u5 s.1 md==u5 y.1 md
section
variable (M:Nat) (fr to:Nat->Nat) (lv:Nat->Bool) (sp:Nat->Sp->Sp×Sp) (src:Nat->Option D8) (T:Nat->Option D8) (md:Int)
def Ak(want:Int)(v k:Nat):Bool:=lv k&&to k==v&&(match T (fr k) with
 | none=>false
 | some x=>u5 x.1 md+u5 (sp k x.2).1 md==want)
def Jp(v:Nat):Option (Option Nat):=match T v with
 | none=>none
 | some y=>if Jo (src v) md y=true then some none
   else match(List.range M).find? (Ak fr to lv sp T md (u5 y.1 md) v) with
    | some k=>some (some k)
    | none=>none
end
section
variable {M:Nat} {fr to:Nat->Nat} {lv:Nat->Bool} {sp:Nat->Sp->Sp×Sp} {src:Nat->Option D8} {T:Nat->Option D8} {md:Int}
theorem UX{v:Nat}{y:D8}(e:T v=some y):Jp M fr to lv sp src T md v=if Jo (src v) md y=true then some none else match(List.range M).find? (Ak fr to lv sp T md (u5 y.1 md) v) with
  | some k=>some (some k)
  | none=>none:=by
 grind[Jp]
theorem w0w{v:Nat}(e:T v=none):Jp M fr to lv sp src T md v=none:=by
 grind[Jp]
theorem w0x{v k:Nat}(h:Jp M fr to lv sp src T md v=some (some k)):k<M/\lv k=true/\to k=v/\∃x y,T (fr k)=some x/\T v=some y/\u5 x.1 md+u5 (sp k x.2).1 md=u5 y.1 md:=by
 cases e:T v with
 | none=>grind[w0w]
 | some y =>
   rw[UX e] at h;by_cases b:Jo (src v) md y=true
   ·grind
   ·rw[if_neg b] at h;cases hf:(List.range M).find? (Ak fr to lv sp T md (u5 y.1 md) v) with
    | none=>grind
    | some c =>
      rw[hf] at h;obtain rfl:c=k:=by grind
      have d:=List.mem_range.1 (List.mem_of_find?_eq_some hf);have a:=List.find?_some hf;unfold Ak at a
      grind
end
abbrev Jq:=Int×Sp×Sp
def Jr(l:List Jq):Prop:=l.Pairwise fun x y=>x.1<y.1
def AK(l:List Jq)(v:Nat):Option D8:=(l.find? fun s=>s.1==(v:Int)).map fun s=>s.2
theorem t0V{l:List Jq}(h:Jr l){s:Jq}(g:s∈l){v:Nat}(m:s.1=(v:Int)):AK l v=some s.2:=by
 unfold AK;cases e:l.find? fun s=>s.1==(v:Int) with
 | none =>
   have:=List.find?_eq_none.1 e s g;simp[m] at this
 | some x =>
   have k:=List.find?_some e;have n:=List.mem_of_find?_eq_some e;have k:x.1=(v:Int):=by simpa using k
   obtain⟨i,hi,b⟩:=List.getElem_of_mem n;obtain⟨j,f,a⟩:=List.getElem_of_mem g;have d:=List.pairwise_iff_getElem.1 h;rcases Nat.lt_trichotomy i j with c | c | c
   ·have:=d i j hi f c;rw[b,a] at this;omega
   ·subst c;rw[b] at a;rw[a];rfl
   ·have:=d j i f hi c;rw[b,a] at this;omega
theorem x0b{l:List Jq}{v:Nat}{x:D8}(h:AK l v=some x):∃s∈l,s.1=(v:Int)/\s.2=x:=by
 unfold AK at h;cases e:l.find? fun s=>s.1==(v:Int) with
 | none=>rw[e] at h; cases h
 | some s =>
   rw[e] at h;cases h;exact⟨s,List.mem_of_find?_eq_some e,by simpa using List.find?_some e,rfl⟩
end Go.Proofs.Xd
end
section
namespace Go.Proofs.YtechodbafnmddaaGreatDoor
open Go Go.Proofs Go.Proofs.Sv Go.Proofs.Xv Go.Proofs.Xl Go.Proofs.Xd
theorem v0t(pl:Nat->B3)(t:Int):∀m,0<m->U1 pl t m<m
 | 1,_=>by
   have e:U1 pl t 1=if((pl 0).2.2.1==t&&(pl 0).2.2.2)=true then((0:Nat):Int) else 0:=rfl
   rw[e];split <;> simp
 | m+2,_=>by
   have e:U1 pl t (m+2)=if((pl (m+1)).2.2.1==t&&(pl (m+1)).2.2.2)=true then((m+1:Nat):Int) else U1 pl t (m+1):=rfl
   have:=v0t pl t (m+1) (by omega);omega
theorem r0V{b:j1}(m:u3 b=true){l:u0}(h:l∈lV b):0<=l.1/\l.1<2*((o3 b.2.1).length:Int)/\0<=l.2.1/\l.2.1<2*((o3 b.2.1).length:Int):=by
 obtain⟨y,f,_⟩:=W4 m;have w:=U2 y;rcases u0X h with ⟨i,j,t,hi,n,g,rfl⟩ | ⟨i,k,t,hi,hk,g,rfl⟩
 ·obtain⟨G,v,P⟩:=FP w hi;obtain⟨F,T,V,o⟩:=FQ v;obtain⟨X,a2,Q,z⟩:=o j n;obtain⟨A,u⟩:∃A:Nat,(k6 (u4 b i) j).2.1=(A:Int):=⟨(k6 (u4 b i) j).2.1.toNat,by omega⟩;obtain⟨B,r⟩:∃B:Nat,(k6 (u4 b i) j).2.2.1=(B:Int):=⟨(k6 (u4 b i) j).2.2.1.toNat,by omega⟩;have a:A < (l5 b.2.1 i).2.2.length:=by omega
  have c:B < (l5 b.2.1 i).2.2.length:=by omega
  have lA:A2 (l5 b.2.1) i+A < (o3 b.2.1).length:=by
   have:=Nj (l5 b.2.1) hi a;unfold o3;rw[Ji]; omega
  have Y:A2 (l5 b.2.1) i+B < (o3 b.2.1).length:=by
   have:=Nj (l5 b.2.1) hi c;unfold o3;rw[Ji]; omega
  have W:=(Qb _ _).2 _ (K7 (d:=(0,0)) g);have x:(Hm (A2 (l5 b.2.1) i:Int) (k6 (u4 b i) j) j t).1=2*((A2 (l5 b.2.1) i:Int)+(A:Int))+((J7 (k6 (u4 b i) j).1 (k6 (u4 b i) j).2.2.2.1).getD t (0,0)).1:=by
   rw[<- u]; rfl
  have s:(Hm (A2 (l5 b.2.1) i:Int) (k6 (u4 b i) j) j t).2.1=2*((A2 (l5 b.2.1) i:Int)+(B:Int))+((J7 (k6 (u4 b i) j).1 (k6 (u4 b i) j).2.2.2.1).getD t (0,0)).2:=by
   rw[<- r]; rfl
  omega
 ·obtain⟨q,e,h2,h3,_⟩:=Qa (x7 b.2.1) i (o3 b.2.1).length _ (K7 (d:=0) hk);have e:(x9 b.2.1 i).getD k 0=(q:Int):=e;have E:=(Uj (x7 b.2.1) i (o3 b.2.1).length).1;have H:=v0t (x7 b.2.1) i (o3 b.2.1).length (by omega);have x:(DL (K4 b i) ((x9 b.2.1 i).getD k 0) k t).1=2*U1 (x7 b.2.1) i (o3 b.2.1).length+(t:Int):=rfl;have s:(DL (K4 b i) ((x9 b.2.1 i).getD k 0) k t).2.1=2*(q:Int)+(t:Int):=by
   rw[<- e]; rfl
  omega
section
variable (b:j1)
def j7:Nat:=2*(o3 b.2.1).length
def o4(i:Nat):Nat:=((lV b).getD i (a7 y138)).1.toNat
def q8(i:Nat):Nat:=((lV b).getD i (a7 y138)).2.1.toNat
theorem Bz(a:u3 b=true){i:Nat}(hi:i < (lV b).length):((lV b).getD i (a7 y138)).1=(o4 b i:Int)/\((lV b).getD i (a7 y138)).2.1=(q8 b i:Int)/\o4 b i<j7 b/\q8 b i<j7 b:=by
 obtain⟨g,f,e,c⟩:=r0V a (K7 (d:=a7 y138) hi)
 grind[o4,q8,j7]
theorem Js(a:u3 b=true):j7 b<=1000000:=by
 have c:=(U2 (W4 a).1).len
 grind[j7]
theorem L0q(a:u3 b=true):Q8 (j9 b)=some (j7 b:Int):=by
 have c:=(U2 (W4 a).1).len;have e:∀s:List B6,IC s=some (s.length:Int):=fun _=>rfl;unfold Q8;rw[e,vS,gP ⟨rfl,⟨by omega,by show 2*((o3 b.2.1).length:Int)<=_; omega⟩,trivial⟩,lE];unfold j7;rw[Int.natCast_mul];rfl
theorem QA(c:wf j6 b)(d:u3 b=true):Q2 b=some (j7 b:Int):=by
 have a:=U2 (W4 d).1;have e:=a.len;unfold Q2;rw[FN b.2.1 c.2.1 a.fac.ni14 a.fac.np8 a.pin,vS,gP ⟨rfl,⟨by omega,by grind⟩,trivial⟩,lE]
 grind[j7,Int.natCast_mul]
end
def H0(l:List Int)(x:Int):Bool:=(List.range l.length).any fun j=>l.getD j 0==x
theorem r93(l:List Int)(x:Int)(c:l.length<=9223372036854775807):Io l x=some (H0 l x):=by
 have a:=H9 c (fun j=>l.getD j 0==x) (some true) (e:=some false) (F:=XS l x) (fun g i hi=>by
  have b:((i:Int)).toNat=i:=rfl;refine(if_pos (decide_eq_true (by omega))).trans ((gP ⟨oo,trivial⟩).trans ?_);rw[b];by_cases h:(l.getD i 0==x)=true
  ·simp_all
  ·rw[if_neg h,if_neg h];exact gP ⟨oo,trivial⟩) (fun g=>if_neg (by simp))
 refine a.trans ?_
 grind[H0,List.range]
def C2(M:Nat)(br:List Int):List Bool:=fN (AI fun k=>!H0 br (k:Int)) M []
theorem r44(a:List j5)(br:List Int)(e:a.length<=1048576)(d:br.length<=1048576):Be a br=some (C2 a.length br):=by
 refine(lF (n:=a.length) (by omega) (fun i (s:List Bool)=>((i:Int),s)) (AI fun k=>!H0 br (k:Int)) (fun i s=>s.length=i) (J:=fun s=>some s) (F:=XU br a) (fun g i s hi b=>?_) (fun i s _ b=>by show(s++[_]).length=_; grind) (fun g s _=>if_neg (by simp)) [] rfl).trans rfl;have c:((i:Int)).toNat=i:=rfl;refine(if_pos (decide_eq_true (by omega))).trans ?_;rw[r93 br _ (by omega),vS];refine(gP ⟨rfl,⟨by grind,by grind⟩,trivial⟩).trans ?_;exact gP ⟨oo,trivial⟩
def BA(M:Nat)(br:List Int):Bool:=br.all (j2 · 0 ((M:Int)-1))&&DG br
theorem D0d:CJ []=some true:=by
 unfold CJ;refine C0Q (fun n a=>?_);obtain⟨m,rfl⟩:∃m,n=m+1:=⟨n-1,by omega⟩;rfl
theorem J0W(xs:List Int)(h:xs.length<=9223372036854775807):CJ xs=some (DG xs):=by
 cases xs with
 | nil=>exact D0d
 | cons x r=>grind[Uo]
theorem O0c{b:j1}(a:u3 b=true)(br:List Int)(h:br.length<=1048576):IL (j9 b) br=some (BA (lV b).length br):=by
 have c:=W6 a;have e:GU (j9 b).2.2.1=some ((lV b).length:Int):=rfl;unfold IL;rw[e,vS,Hi br 0 _ (by omega),vS,J0W br (by omega),vS,gP ⟨rfl,oo,rfl,(fun _=>rfl),trivial⟩];rfl
theorem L0m(M:Nat)(br:List Int)(l:M<=1048576)(h:br.length<=1048576):OD br (M:Int)=some (BA M br):=by
 have b:=H9 (n:=br.length) (by omega) (fun i=>!j2 (br.getD i 0) 0 ((M:Int)-1)||(decide (0<i)&&decide (br.getD i 0<=br.getD (i-1) 0))) (some false) (e:=some true) (F:=Ym br (M:Int)) (fun g i hi=>by
  have f:((i:Int)).toNat=i:=rfl;have j:((i:Int)-1).toNat=i-1:=by omega
  refine(if_pos (decide_eq_true (by omega))).trans ?_;rw[R8,vS,f,j];refine(gP ⟨oo,oo,rfl,(fun a=>oo),(fun a=>⟨by have:=of_decide_eq_true a.1; omega,by omega⟩),(fun _=>oo),trivial⟩).trans ?_;have k:decide ((0:Int) < (i:Int))=decide (0<i):=by
   rw[decide_eq_decide]; omega
  rw[k];by_cases a:(!j2 (br.getD i 0) 0 ((M:Int)-1)||(decide (0<i)&&decide (br.getD i 0<=br.getD (i-1) 0)))=true
  ·rw[if_pos a,if_pos a]
  ·rw[if_neg a,if_neg a];exact gP ⟨oo,trivial⟩) (fun g=>if_neg (by simp))
 refine b.trans ?_;have e:BA M br=!((List.range br.length).any fun i=>!j2 (br.getD i 0) 0 ((M:Int)-1)||(decide (0<i)&&decide (br.getD i 0<=br.getD (i-1) 0))):=by
  unfold BA DG;rw[Bool.eq_iff_iff];simp only[ba,Bool.not_eq_true',<- Bool.not_eq_true,List.any_eq_true,List.all_eq_true,List.mem_range,Bool.or_eq_true];constructor
  ·grind
  ·intro c;refine⟨fun x d=>?_,fun⟨i,hi,a⟩=>c ⟨i,hi,.inr a⟩⟩;obtain⟨i,hi,rfl⟩:=List.getElem_of_mem d
   simp_all
 grind
theorem j0k{a:Type}(g:a->Nat->a)(l:List Nat)(s:a):fN (fun i s=>g s (l.getD i 0)) l.length s=l.foldl g s:=by
 have b:∀n,n<=l.length->fN (fun i s=>g s (l.getD i 0)) n s=(l.take n).foldl g s:=by
  intro n
  induction n with
  | zero=>intro _; rfl
  | succ n c =>
    intro d;have e:l.take (n+1)=l.take n++[l.getD n 0]:=by
     rw[List.take_add_one,gq,List.getElem?_eq_getElem (by omega)];rfl
    rw[e,List.foldl_append,<- c (by omega)];rfl
 have:=b l.length (Nat.le_refl _)
 rwa [List.take_length] at this
theorem C0k(M:Nat):∀m,m<=M->(fN (fun i (s:List Bool)=>s.set i true) m (List.replicate M false)).length=M/\∀k,k<m->(fN (fun i (s:List Bool)=>s.set i true) m (List.replicate M false)).getD k false=true:=by
 intro m
 induction m with
 | zero=>exact fun _=>⟨List.length_replicate,fun k a=>by omega⟩
 | succ m b =>
   intro c;obtain⟨e,d⟩:=b (by omega);refine⟨by show(List.set _ _ _).length=M; grind,fun k a=>?_⟩;show(List.set _ _ _).getD k false=true;rw[x0h _ (by omega)]
   grind
theorem D0F(br:List Int)(s:List Bool):∀m,(∀j,j<m->(br.getD j 0).toNat<s.length)->(fN (fun i (s:List Bool)=>s.set (br.getD i 0).toNat false) m s).length=s.length/\∀k,(fN (fun i (s:List Bool)=>s.set (br.getD i 0).toNat false) m s).getD k false=(s.getD k false&&!(List.range m).any fun j=>(br.getD j 0).toNat==k):=by
 intro m
 induction m with
 | zero=>exact fun _=>⟨rfl,fun k=>by show s.getD k false=_; simp⟩
 | succ m b =>
   intro a;obtain⟨e,d⟩:=b (fun j c=>a j (by omega));refine⟨by show(List.set _ _ _).length=_; grind,fun k=>?_⟩;show(List.set _ _ _).getD k false=_
   grind
def P8(p:Nat->Bool)(M:Nat):List Int:=((List.range M).filter p).map fun i:Nat=>(i:Int)
theorem QB(p:Nat->Bool):∀m,fN (fun i (s:List Int)=>if p i=true then s++[(i:Int)] else s) m []=P8 p m
 | 0=>rfl
 | m+1=>by
   show(if p m=true then fN _ m []++[(m:Int)] else fN _ m [])=_;rw[QB p m];unfold P8;rw[List.range_succ,List.filter_append,List.map_append]
   grind
theorem UY(p:Nat->Bool)(M:Nat):(P8 p M).length<=M/\(P8 p M).length=((List.range M).filter p).length:=by
 unfold P8
 grind
theorem UZ(p:Nat->Bool)(M i:Nat):(P8 p M).getD i 0=((((List.range M).filter p).getD i 0:Nat):Int):=by
 grind[P8,List.range]
theorem Nx{p:Nat->Bool}{M i:Nat}(h:i < ((List.range M).filter p).length):((List.range M).filter p).getD i 0<M:=by
 grind[K7]
def Y9(o:Option (List Nat)):List Int×Bool:=match o with
 | none=>([],false)
 | some l=>(l.map (fun v:Nat=>(v:Int)),true)
section
variable {b:j1}
theorem O0a(t:u3 b=true){br:List Int}(a:BA (lV b).length br=true)(w:br.length<=1048576):MI (j9 b) br=some (j9 b,C2 (lV b).length br):=by
 have v:=W6 t;have a:=a;unfold BA at a;rw[ba] at a;have c:∀j,j<br.length->0<=br.getD j 0/\br.getD j 0 < ((lV b).length:Int):=fun j o=>by
  grind[A4,IZ]
 obtain⟨e,q⟩:=C0k (lV b).length (lV b).length (Nat.le_refl _);obtain⟨m,r⟩:=D0F br (fN (fun i (s:List Bool)=>s.set i true) (lV b).length (List.replicate (lV b).length false)) br.length (fun j o=>by
  have:=c j o;omega)
 have l:fN (fun i (s:List Bool)=>s.set (br.getD i 0).toNat false) br.length (fN (fun i (s:List Bool)=>s.set i true) (lV b).length (List.replicate (lV b).length false))=C2 (lV b).length br:=by
  refine C0Z false (by rw[m,e]; exact(Hf _ _).symm) (fun k d=>?_);have d:k < (lV b).length:=by rw[m,e] at d; exact d
  rw[r,q k d,Bool.true_and];refine Eq.trans ?_ (MZ (fun k=>!H0 br (k:Int)) false _ k d).symm;congr 1;unfold H0;rw[Bool.eq_iff_iff,List.any_eq_true,List.any_eq_true];constructor
  ·grind
  ·grind
 unfold MI;have u:((j9 b).2.2.1.length:Int)=((lV b).length:Int):=rfl;rw[u,Int.toNat_natCast];refine(gP ⟨⟨by omega,rfl,by omega,by omega⟩,trivial⟩).trans ?_;rw[lE,List.length_replicate];refine(lF (n:=(lV b).length) (by omega) (fun i (s:List Bool)=>((i:Int),s)) (fun i s=>s.set i true) (fun _ s=>s.length=(lV b).length) (J:=fun s=>MH br (j9 b) s) (F:=A0L br (j9 b) ((lV b).length:Int)) (fun g i s hi f=>?_) (fun i s _ f=>by grind) (fun g s _=>if_neg (by simp)) (List.replicate (lV b).length false) List.length_replicate).trans ?_
 ·have h:((i:Int)).toNat=i:=rfl;refine(if_pos (decide_eq_true (by omega))).trans ?_;refine(gP ⟨oo,by omega,trivial⟩).trans ?_;exact gP ⟨oo,trivial⟩
 ·show MH br (j9 b) _=_;rw[MH];refine(lF (n:=br.length) (by omega) (fun i (s:List Bool)=>((i:Int),s)) (fun i s=>s.set (br.getD i 0).toNat false) (fun _ s=>s.length=(lV b).length) (J:=fun s=>some (j9 b,s)) (F:=A0K br (j9 b)) (fun g i s hi f=>?_) (fun i s _ f=>by grind) (fun g s _=>if_neg (by simp)) _ e).trans ?_
  ·have h:((i:Int)).toNat=i:=rfl;have:=c i hi;refine(if_pos (decide_eq_true (by omega))).trans ?_;refine(gP ⟨oo,trivial⟩).trans ?_;rw[h];refine(gP ⟨oo,by omega,trivial⟩).trans ?_;exact gP ⟨oo,trivial⟩
  grind
theorem J0U(d:u3 b=true){lv:List Bool}(c:lv.length=(lV b).length):PJ (j9 b,lv)=some (P8 (fun i=>lv.getD i false) (lV b).length):=by
 have f:=W6 d;refine(lF (n:=(lV b).length) (by omega) (fun i (s:List Int)=>(s,(i:Int))) (fun i s=>if lv.getD i false=true then s++[(i:Int)] else s) (fun i s=>s.length<=i) (J:=fun s=>some s) (F:=k0o (j9 b,lv)) (fun g i s hi e=>?_) (fun i s _ e=>?_) (fun g s _=>if_neg (by simp[j9])) [] (Nat.le_refl _)).trans (congrArg some (QB _ _))
 ·have j:((i:Int)).toNat=i:=rfl;have a:ix (i:Int) (j9 b).2.2.1.length:=⟨by omega,by show(i:Int) < ((lV b).length:Int); omega⟩;refine(if_pos (decide_eq_true a.2)).trans ((gP ⟨a,trivial⟩).trans ?_);rw[lE];refine(gP ⟨⟨by omega,by grind⟩,(fun _=>rfl),trivial⟩).trans ?_;show(if(lv.getD i false&&true)=true then _ else _)=_;rw[Bool.and_true];by_cases h:lv.getD i false=true
  ·rw[if_pos h,if_pos h];refine(gP ⟨⟨by grind,by grind⟩,trivial⟩).trans ?_;exact gP ⟨oo,trivial⟩
  ·rw[if_neg h,if_neg h];exact gP ⟨oo,trivial⟩
 grind
theorem J0V(d:u3 b=true){lv:List Bool}(e:lv.length=(lV b).length)(a:Nat):PG (j9 b,lv) (a:Int)=some (P8 (fun i=>lv.getD i false&&o4 b i==a) (lV b).length):=by
 have l:=W6 d;refine(lF (n:=(lV b).length) (by omega) (fun i (s:List Int)=>(s,(i:Int))) (fun i s=>if(lv.getD i false&&o4 b i==a)=true then s++[(i:Int)] else s) (fun i s=>s.length<=i) (J:=fun s=>some s) (F:=k0k (j9 b,lv) (a:Int)) (fun g i s hi k=>?_) (fun i s _ k=>?_) (fun g s _=>if_neg (by simp[j9])) [] (Nat.le_refl _)).trans (congrArg some (QB _ _))
 ·have m:((i:Int)).toNat=i:=rfl;have c:ix (i:Int) (j9 b).2.2.1.length:=⟨by omega,by show(i:Int) < ((lV b).length:Int); omega⟩;refine(if_pos (decide_eq_true c.2)).trans ((gP ⟨c,trivial⟩).trans ?_);rw[lE];refine(gP ⟨⟨by omega,by show(i:Int) < (lv.length:Int); omega⟩,(fun _=>rfl),trivial⟩).trans ?_;obtain⟨j,_⟩:=Bz b d hi;have f:(((lV b).getD i (a7 y138)).1==(a:Int))=(o4 b i==a):=by
   rw[j,Bool.eq_iff_iff,beq_iff_eq,beq_iff_eq]; omega
  show(if(lv.getD i false&&(((lV b).getD i (a7 y138)).1==(a:Int)))=true then _ else _)=_;rw[f];by_cases h:(lv.getD i false&&o4 b i==a)=true
  ·rw[if_pos h,if_pos h];refine(gP ⟨⟨by grind,by grind⟩,trivial⟩).trans ?_;exact gP ⟨oo,trivial⟩
  ·rw[if_neg h,if_neg h];exact gP ⟨oo,trivial⟩
 grind
theorem N0O(d:u3 b=true){lv:List Bool}(c:lv.length=(lV b).length)(a:Nat):GV (j9 b,lv) (a:Int)=some (P8 (fun i=>lv.getD i false&&o4 b i==a) (lV b).length):=by
 unfold GV;rw[J0V d c,vS,gP ⟨rfl,trivial⟩,lE]
theorem N0P(o:List Int)(h:o.length<=9223372036854775807):PH o 0=some (match(List.range o.length).find? (fun v=>(0:Int)==o.getD v 0) with | some v=>(v:Int) | none => -1):=by
 have a:=FW h (fun v=>(0:Int)==o.getD v 0) (fun v=>some (v:Int)) (e:=some (-1)) (F:=z0Y 0 o) 0 (Nat.zero_le _) (fun g i _ hi=>by
  have c:((i:Int)).toNat=i:=rfl;refine(if_pos (decide_eq_true (by omega))).trans ((gP ⟨oo,trivial⟩).trans ?_);rw[c];by_cases b:((0:Int)==o.getD i 0)=true
  ·simp_all
  ·rw[if_neg b,if_neg b];exact gP ⟨oo,trivial⟩) (fun g=>if_neg (by simp))
 rw[Nat.sub_zero,<- List.range_eq_range'] at a;refine Eq.trans a ?_
 grind
end
section
variable {b:j1}
theorem u0b{o:List Int}{i N:Nat}{x:Int}(h:o.length=N):(o.set i x).length=N:=by grind
theorem H0m(d:u3 b=true){lv:List Bool}{p:Nat->Bool}:lp (TF (j9 b,lv) (P8 p (lV b).length)) (0,List.replicate (j7 b) 0)=MJ (j9 b,lv) (((List.range (lV b).length).filter p).foldl (FT (q8 b)) (List.replicate (j7 b) 0)):=by
 have y:=W6 d;obtain⟨E,l⟩:=UY p (lV b).length;rw[<- j0k,<- l];refine lF (n:=(P8 p (lV b).length).length) (by omega) (fun i (s:List Int)=>((i:Int),s)) (fun i o=>FT (q8 b) o (((List.range (lV b).length).filter p).getD i 0)) (fun i o=>o.length=j7 b/\∀v,0<=o.getD v 0/\o.getD v 0<=(i:Int)) (J:=fun s=>MJ (j9 b,lv) s) (F:=TF (j9 b,lv) (P8 p (lV b).length)) (fun g i o hi c=>?_) (fun i o hi c=>?_) (fun g s _=>if_neg (by simp)) _ ⟨List.length_replicate,fun v=>?_⟩
 ·have q:((i:Int)).toNat=i:=rfl;obtain⟨f,h⟩:=c;have a:=Nx (p:=p) (M:=(lV b).length) (i:=i) (by omega);refine(if_pos (decide_eq_true (by omega))).trans ?_;refine(gP ⟨oo,by omega,trivial⟩).trans ?_;rw[q,UZ];generalize ((List.range (lV b).length).filter p).getD i 0=k at a;have z:Int.toNat ((k:Nat):Int)=k:=rfl;obtain⟨u,e,m,t⟩:=Bz b d a;have j:ix ((k:Nat):Int) (j9 b).2.2.1.length:=⟨by omega,by show((k:Nat):Int) < ((lV b).length:Int); omega⟩;have x:=h (q8 b k);have r:((j9 b).2.2.1.getD (Int.toNat ((k:Nat):Int)) (a7 y138)).2.1=(q8 b k:Int):=e;have w:Int.toNat ((q8 b k:Nat):Int)=q8 b k:=rfl;rw[r,w];refine(gP ⟨j,oo,by omega,oo,oo,by omega,trivial⟩).trans ?_;rw[lE];exact gP ⟨oo,trivial⟩
 ·obtain⟨f,h⟩:=c;have a:=Nx (p:=p) (M:=(lV b).length) (i:=i) (by omega);obtain⟨u,e,m,t⟩:=Bz b d a;refine⟨u0b f,fun v=>?_⟩
  grind[FT,Nt,q8,List.range,lV]
 grind
theorem H0l(f:u3 b=true){lv:List Bool}{p:Nat->Bool}{n:Int}{l:List Int}{v:Int}{a:List Int×Int×List Int->Option (List Int×Bool)}{o:List Int}{A:Int}(H:0<=A)(z:A<=1000000000000)(c:o.length=j7 b)(j:∀w,w<j7 b -> -A<=o.getD w 0/\o.getD w 0<=A):lp (PL (j9 b,lv) (P8 p (lV b).length) n l v a) (0,o)=PK n a (l++[v],((List.range (lV b).length).filter p).foldl (Hx (q8 b)) o):=by
 have T:=W6 f;obtain⟨Q,x⟩:=UY p (lV b).length;rw[<- j0k,<- x];refine lF (n:=(P8 p (lV b).length).length) (by omega) (fun i (s:List Int)=>((i:Int),s)) (fun i o=>Hx (q8 b) o (((List.range (lV b).length).filter p).getD i 0)) (fun i o=>o.length=j7 b/\∀w,w<j7 b -> -A-(i:Int)<=o.getD w 0/\o.getD w 0<=A) (J:=fun s=>PK n a (l++[v],s)) (F:=PL (j9 b,lv) (P8 p (lV b).length) n l v a) (fun g i o hi e=>?_) (fun i o hi e=>?_) (fun g s _=>if_neg (by simp)) _ ⟨c,fun w G=>by grind⟩
 ·have y:((i:Int)).toNat=i:=rfl;obtain⟨c,h⟩:=e;have d:=Nx (p:=p) (M:=(lV b).length) (i:=i) (by omega);refine(if_pos (decide_eq_true (by omega))).trans ?_;refine(gP ⟨oo,by omega,trivial⟩).trans ?_;rw[y,UZ];generalize ((List.range (lV b).length).filter p).getD i 0=k at d;obtain⟨V,u,P,q⟩:=Bz b f d;have t:ix ((k:Nat):Int) (j9 b).2.2.1.length:=⟨by omega,by show((k:Nat):Int) < ((lV b).length:Int); omega⟩;have E:=h (q8 b k) q;have m:((j9 b).2.2.1.getD (Int.toNat ((k:Nat):Int)) (a7 y138)).2.1=(q8 b k:Int):=u;have r:Int.toNat ((q8 b k:Nat):Int)=q8 b k:=rfl;rw[m,r];refine(gP ⟨t,oo,by omega,oo,oo,by omega,trivial⟩).trans ?_;rw[lE];exact gP ⟨oo,trivial⟩
 ·obtain⟨c,h⟩:=e;have d:=Nx (p:=p) (M:=(lV b).length) (i:=i) (by omega)
  grind[Hx]
def S0(b:j1)(lv:List Bool)(out:List Nat)(k:Nat):Option (List Nat):=Hy (lV b).length (j7 b) (o4 b) (q8 b) (fun i=>lv.getD i false) k out
theorem Va(M N:Nat)(fr b:Nat->Nat)(lv:Nat->Bool)(k:Nat)(a:List Nat):Hy M N fr b lv (k+1) a=match U5 M N fr b lv a with | none=>none | some v=>Hy M N fr b lv k (a++[v]):=rfl
theorem N0Z(d:u3 b=true){lv:List Bool}(f:lv.length=(lV b).length):MK (j9 b,lv)=some (Y9 (S0 b lv [] (j7 b))):=by
 have x:=W6 d;have E:=Js b d;have o:∀i,i < (lV b).length->q8 b i<j7 b:=fun i hi=>(Bz b d hi).2.2.2;unfold MK;rw[L0q b d,vS,gP ⟨rfl,⟨by omega,rfl,by omega,by omega⟩,trivial⟩,lE,J0U d f,vS,gP ⟨rfl,trivial⟩,lE,Int.toNat_natCast,H0m d];have r:((List.range (lV b).length).filter fun i=>lv.getD i false).foldl (FT (q8 b)) (List.replicate (j7 b) 0)=CV (lV b).length (j7 b) (o4 b) (q8 b) (fun i=>lv.getD i false) []:=rfl;rw[r];have j:(CV (lV b).length (j7 b) (o4 b) (q8 b) (fun i=>lv.getD i false) []).length=j7 b:=(B0k (fr:=o4 b) o).len;generalize hv6:CV (lV b).length (j7 b) (o4 b) (q8 b) (fun i=>lv.getD i false) []=v6 at j;rw[MJ];have s:=Vb (n:=j7 b) (by omega) (fun i (a:List Nat)=>(a.map (fun v:Nat=>(v:Int)),(i:Int),CV (lV b).length (j7 b) (o4 b) (q8 b) (fun i=>lv.getD i false) a))
  (fun _ a=>(U5 (lV b).length (j7 b) (o4 b) (q8 b) (fun i=>lv.getD i false) a).map fun v=>a++[v]) (fun _ _=>some ([],false))
  (fun i a=>a.length=i/\Nu (lV b).length (j7 b) (o4 b) (q8 b) (fun i=>lv.getD i false) a (CV (lV b).length (j7 b) (o4 b) (q8 b) (fun i=>lv.getD i false) a))
  (J:=fun a=>some (a.map (fun v:Nat=>(v:Int)),true)) (F:=A0I (j9 b,lv) v6)
  (fun g i a hi h=>by
    obtain⟨u,c⟩:=h;have G:((i:Int)).toNat=i:=rfl;refine(if_pos (decide_eq_true (by omega))).trans ?_;rw[N0P _ (by rw[c.len]; omega),u0u c,vS];refine(gP ⟨rfl,trivial⟩).trans ?_;rw[lE];cases hn:U5 (lV b).length (j7 b) (o4 b) (q8 b) (fun i=>lv.getD i false) a with
    | none=>rfl
    | some v =>
      obtain⟨t,y⟩:=Qx hn;have ev:((v:Int)).toNat=v:=rfl;dsimp only;refine(if_neg (by simp)).trans ?_;refine(gP ⟨⟨by omega,by rw[c.len]; omega⟩,by rw[c.len]; omega,trivial⟩).trans ?_;refine(gP ⟨⟨by simp only[List.length_singleton,List.length_map]; omega,by simp only[List.length_singleton,List.length_map]; omega⟩,trivial⟩).trans ?_;show gd ((GV (j9 b,lv) (v:Int)).isSome=true/\True) (lt (vl (GV (j9 b,lv) (v:Int))) fun k=>lp (PL (j9 b,lv) k (i:Int) (a.map fun v:Nat=>(v:Int)) (v:Int) g) (0,(CV (lV b).length (j7 b) (o4 b) (q8 b) (fun i=>lv.getD i false) a).set v (-1)))=g ((a++[v]).map (fun v:Nat=>(v:Int)),(((i+1:Nat)):Int),CV (lV b).length (j7 b) (o4 b) (q8 b) (fun i=>lv.getD i false) (a++[v]));rw[N0O d f,vS,gP ⟨rfl,trivial⟩,lE];have q:(a.length:Int)*((lV b).length:Int)<=1000000*6000:=Int.mul_le_mul (by omega) (by omega) (by omega) (by decide);rw[H0l d (A:=6000000001) (by decide) (by decide) (u0b c.len) (fun w l=>by
       rw[Nt _ (by rw[c.len]; exact t)];have H:=c.lo w l;have P:=c.hi w l;split <;> omega)]
      rw[n0a,List.map_append];exact gP ⟨oo,trivial⟩)
  (fun i a m hi h z=>by
    obtain⟨u,c⟩:=h;cases hn:U5 (lV b).length (j7 b) (o4 b) (q8 b) (fun i=>lv.getD i false) a with
    | none=>grind
    | some v =>
      grind[Qx,n0a,u0t])
  (fun g a h=>by
    refine(if_neg ?_).trans rfl
    grind)
  (fun i a=>some (Y9 (S0 b lv a (j7 b-i)))) (fun a _=>by
    rw[Nat.sub_self]; rfl)
  (fun i a hi h=>by
    have e:j7 b-i=(j7 b-(i+1))+1:=by omega
    show some (Y9 (Hy _ _ _ _ _ (j7 b-i) a))=_;rw[e,Va];cases U5 (lV b).length (j7 b) (o4 b) (q8 b) (fun i=>lv.getD i false) a <;> rfl)
  0 (Nat.zero_le _) [] ⟨rfl,B0k o⟩
 grind
end
section
variable {b:j1}
theorem N0N(l:u3 b=true){lv:List Bool}(z:lv.length=(lV b).length):KN (j7 b:Int) (lV b) lv=some (Y9 (S0 b lv [] (j7 b))):=by
 have hM:=W6 l;have hN:=Js b l;have u:∀i,i < (lV b).length->q8 b i<j7 b:=fun i hi=>(Bz b l hi).2.2.2;have j:((j7 b:Int)).toNat=j7 b:=rfl;unfold KN;rw[j];refine(gP ⟨⟨by omega,rfl,by omega,by omega⟩,trivial⟩).trans ?_;exact Vb (n:=j7 b) (by omega) (fun _ (a:List Nat)=>(U6 (j7 b) a,a.map (fun v:Nat=>(v:Int))))
  (fun _ a=>(U5 (lV b).length (j7 b) (o4 b) (q8 b) (fun i=>lv.getD i false) a).map fun v=>a++[v]) (fun _ _=>some ([],false))
  (fun i a=>a.length=i/\∀v∈a,v<j7 b)
  (J:=fun a=>some (a.map (fun v:Nat=>(v:Int)),true)) (F:=Yk (lV b) lv (j7 b:Int))
  (fun g i a hi f=>by
    obtain⟨X,r⟩:=f;have q:=fun w=>n0j r w;refine(if_pos (decide_eq_true (by grind))).trans ?_;rw[j];refine(gP ⟨⟨by omega,rfl,by omega,by omega⟩,trivial⟩).trans ?_;refine(lF (n:=(lV b).length) (by omega) (fun k (w:List Bool)=>((k:Int),w)) (FU (o4 b) (q8 b) (fun i=>lv.getD i false) a) (fun _ w=>w.length=j7 b) (J:=fun w=>KM (U6 (j7 b) a) (a.map fun v:Nat=>(v:Int)) (j7 b:Int) g w) (F:=Yj (lV b) lv (U6 (j7 b) a) (a.map fun v:Nat=>(v:Int)) (j7 b:Int) g) (fun y k w E x=>?_) (fun k w _ x=>?_) (fun y w _=>if_neg (by simp)) (List.replicate (j7 b) false) List.length_replicate).trans ?_
    ·have m:((k:Int)).toNat=k:=rfl;obtain⟨W,Q,Y,f4⟩:=Bz b l E;have V:Int.toNat ((o4 b k:Nat):Int)=o4 b k:=rfl;have P:Int.toNat ((q8 b k:Nat):Int)=q8 b k:=rfl;have H:=(q (o4 b k)).1;refine(if_pos (decide_eq_true (by omega))).trans ?_;rw[m,W,Q,V,P,(q (o4 b k)).2];refine(gP ⟨oo,(fun _=>oo),(fun _=>oo),(fun _=>by omega),trivial⟩).trans ?_;unfold FU;by_cases c:(lv.getD k false&&!a.contains (o4 b k))=true
     ·rw[if_pos c,if_pos c];refine(gP ⟨oo,oo,by omega,trivial⟩).trans ?_;exact gP ⟨oo,trivial⟩
     ·rw[if_neg c,if_neg c];exact gP ⟨oo,trivial⟩
    ·grind[FU,List.length_set]
    ·show KM _ _ _ g _=_;rw[KM,<- s0R (lv:=fun i=>lv.getD i false) (fr:=o4 b) u r];have T:=(p0r (fr:=o4 b) (lv:=fun i=>lv.getD i false) u a 0 _ (Nat.le_refl _)).1;generalize fN (FU (o4 b) (q8 b) (fun i=>lv.getD i false) a) (lV b).length (List.replicate (j7 b) false)=w at T;have H:=(q 0).1;have d:=FW (n:=j7 b) (by omega) (fun v=>!((U6 (j7 b) a).getD v false||w.getD v false)) (fun v=>Iq (U6 (j7 b) a) (a.map fun v:Nat=>(v:Int)) (j7 b:Int) g (v:Int)) (e:=some ([],false)) (F:=Yi (U6 (j7 b) a) (a.map fun v:Nat=>(v:Int)) (j7 b:Int) w g) 0 (Nat.zero_le _) (fun G v _ o=>by
      have m:((v:Int)).toNat=v:=rfl;have s:decide ((v:Int) < (j7 b:Int))=true:=decide_eq_true (by omega);refine(gP ⟨(fun _=>oo),(fun _=>by omega),(fun _=>oo),(fun _=>by omega),trivial⟩).trans ?_;rw[m,s,Bool.true_and];by_cases c:((U6 (j7 b) a).getD v false||w.getD v false)=true
      ·rw[if_pos c,if_neg (by grind)];exact gP ⟨oo,trivial⟩
      simp_all) (fun G=>by
      have s:decide ((j7 b:Int) < (j7 b:Int))=false:=decide_eq_false (by omega);refine(gP ⟨(fun h=>by grind),(fun h=>by grind),(fun h=>by grind),(fun h=>by grind),trivial⟩).trans ?_
      grind[trans,Iq])
     rw[Nat.sub_zero,<- List.range_eq_range'] at d;refine Eq.trans d ?_;cases hn:(List.range (j7 b)).find? fun v=>!((U6 (j7 b) a).getD v false||w.getD v false) with
     | none=>rfl
     | some v =>
       have o:=List.mem_range.1 (List.mem_of_find?_eq_some hn);have m:((v:Int)).toNat=v:=rfl;show Iq (U6 (j7 b) a) (a.map fun v:Nat=>(v:Int)) (j7 b:Int) g (v:Int)=g (U6 (j7 b) (a++[v]),(a++[v]).map fun v:Nat=>(v:Int));rw[Iq,u0W,List.map_append];refine(if_neg (by grind)).trans ?_;refine(gP ⟨oo,by omega,trivial⟩).trans ?_;exact gP ⟨⟨by grind,by grind⟩,trivial⟩)
  (fun i a t hi f he=>by
    obtain⟨X,r⟩:=f;cases hn:U5 (lV b).length (j7 b) (o4 b) (q8 b) (fun i=>lv.getD i false) a with
    | none=>grind
    | some v =>
      grind[Qx,List.mem_singleton])
  (fun g a f=>by
    refine(if_neg ?_).trans rfl
    grind)
  (fun i a=>some (Y9 (S0 b lv a (j7 b-i)))) (fun a _=>by
    rw[Nat.sub_self]; rfl)
  (fun i a hi f=>by
    have e:j7 b-i=(j7 b-(i+1))+1:=by omega
    show some (Y9 (Hy _ _ _ _ _ (j7 b-i) a))=_;rw[e,Va];cases U5 (lV b).length (j7 b) (o4 b) (q8 b) (fun i=>lv.getD i false) a <;> rfl)
  0 (Nat.zero_le _) [] ⟨rfl,fun v o=>nomatch o⟩
theorem QC(M:Nat)(br:List Int):(C2 M br).length=M:=Hf _ _
end
def DQ(b:j1)(br:List Int):Int:=if u3 b=true then(if BA (lV b).length br=true then 0 else 2) else 1
theorem L0p(b:j1)(a:wf j6 b)(d:h9 j6 b<=1048576)(br:List Int)(c:br.length<=1048576):Ft b br=some (DQ b br):=by
 unfold Ft DQ;rw[UA b a d,vS,gP ⟨rfl,trivial⟩];cases hb:u3 b with
 | false=>rfl
 | true =>
   have e:=W6 hb;refine(if_neg (by simp)).trans ?_;rw[UJ b a hb,vS,L0m _ br (by omega) c,gP ⟨rfl,rfl,trivial⟩,lE,L0m _ br (by omega) c,vS]
   grind
theorem y0u{b:j1}{br:List Int}(h:DQ b br=0):u3 b=true/\BA (lV b).length br=true:=by
 unfold DQ at h;split at h
 ·rename_i c;split at h
  ·rename_i a; exact⟨c,a⟩
  ·cases h
 ·cases h
def Vc(b:j1)(br:List Int):List Int×Int:=if DQ b br=0 then(if(Y9 (S0 b (C2 (lV b).length br) [] (j7 b))).2=true then((Y9 (S0 b (C2 (lV b).length br) [] (j7 b))).1,0) else([],7)) else([],DQ b br)
theorem N0V(b:j1)(c:wf j6 b)(e:h9 j6 b<=1048576)(br:List Int)(d:br.length<=1048576):Lg b br=some (Vc b br):=by
 unfold Lg Vc;rw[L0p b c e br d,vS,gP ⟨rfl,trivial⟩,lE];by_cases h:DQ b br=0
 ·obtain⟨a,g⟩:=y0u h;have f:=W6 a;rw[h];refine(if_neg (by decide)).trans ?_;rw[UJ b c a,vS,gP ⟨rfl,trivial⟩,lE,QA b c a,vS,r44 _ _ (by omega) d,vS,N0N a (QC _ _),vS];refine(gP ⟨rfl,rfl,rfl,trivial⟩).trans ?_;rw[lE,if_pos rfl];cases h2:(Y9 (S0 b (C2 (lV b).length br) [] (j7 b))).2
  ·refine(if_pos (by simp[h2])).trans ?_;rfl
  ·refine(if_neg (by simp[h2])).trans ?_;rfl
 ·rw[if_neg h];exact if_pos (by simp[h])
section
variable {b:j1}
end
theorem Vd{b:j1}(c:u3 b=true)(a:Int):T4 (j9 b) a=some (j2 a 0 ((j7 b:Int)-1)):=by
 have d:=Js b c;unfold T4;rw[L0q b c,vS];refine(gP ⟨rfl,oo,rfl,trivial⟩).trans ?_;rw[Y2,vS]
section
variable {b:j1}
theorem x0v(d:u3 b=true){lv:List Bool}(e:lv.length=(lV b).length)(a:Nat):OY (j9 b,lv) (a:Int)=some (P8 (fun i=>lv.getD i false&&q8 b i==a) (lV b).length):=by
 have l:=W6 d;refine(lF (n:=(lV b).length) (by omega) (fun i (s:List Int)=>(s,(i:Int))) (fun i s=>if(lv.getD i false&&q8 b i==a)=true then s++[(i:Int)] else s) (fun i s=>s.length<=i) (J:=fun s=>some s) (F:=k0m (j9 b,lv) (a:Int)) (fun g i s hi k=>?_) (fun i s _ k=>?_) (fun g s _=>if_neg (by simp[j9])) [] (Nat.le_refl _)).trans (congrArg some (QB _ _))
 ·have m:((i:Int)).toNat=i:=rfl;have c:ix (i:Int) (j9 b).2.2.1.length:=⟨by omega,by show(i:Int) < ((lV b).length:Int); omega⟩;refine(if_pos (decide_eq_true c.2)).trans ((gP ⟨c,trivial⟩).trans ?_);rw[lE];refine(gP ⟨⟨by omega,by show(i:Int) < (lv.length:Int); omega⟩,(fun _=>rfl),trivial⟩).trans ?_;obtain⟨_,f,_⟩:=Bz b d hi;have j:(((lV b).getD i (a7 y138)).2.1==(a:Int))=(q8 b i==a):=by
   rw[f,Bool.eq_iff_iff,beq_iff_eq,beq_iff_eq]; omega
  show(if(lv.getD i false&&(((lV b).getD i (a7 y138)).2.1==(a:Int)))=true then _ else _)=_;rw[j];by_cases h:(lv.getD i false&&q8 b i==a)=true
  ·rw[if_pos h,if_pos h];refine(gP ⟨⟨by simp only[List.length_singleton]; omega,by simp only[List.length_singleton]; omega⟩,trivial⟩).trans ?_;exact gP ⟨oo,trivial⟩
  ·rw[if_neg h,if_neg h];exact gP ⟨oo,trivial⟩
 ·show(if(lv.getD i false&&q8 b i==a)=true then s++[(i:Int)] else s).length<=i+1;split
  ·rw[List.length_append,List.length_singleton]; omega
  ·omega
theorem N0X(d:u3 b=true){lv:List Bool}(c:lv.length=(lV b).length)(a:Nat):GK (j9 b,lv) (a:Int)=some (P8 (fun i=>lv.getD i false&&q8 b i==a) (lV b).length):=by
 unfold GK;rw[x0v d c,vS,gP ⟨rfl,trivial⟩,lE]
end
theorem QD:∀(N:Nat) (l:List Nat),l.Nodup->(∀v∈l,v<N)->l.length<=N
 | 0,l,_,h=>by
   cases l with
   | nil=>exact Nat.le_refl _
   | cons a r=>exact(Nat.not_lt_zero _ (h a (by simp))).elim
 | N+1,l,hd,h=>by
   by_cases c:N∈l
   ·have f:=QD N (l.erase N) (hd.erase N) (fun v b=>by
     have d:=(hd.mem_erase_iff).1 b;have:=h v d.2;have:=d.1;omega)
    have:=List.length_erase_of_mem c;have:0<l.length:=List.length_pos_of_mem c;omega
   ·have:=QD N l hd (fun v b=>by
     have f:=h v b;have:v≠N:=fun e=>c (e ▸ b);omega)
    omega
theorem C0N{l:List Nat}{v:Nat}(h:v∈l):∃p,p<l.length/\l.getD p 0=v:=by
 obtain⟨p,a,e⟩:=List.getElem_of_mem h;exact⟨p,a,by rw[gq,List.getElem?_eq_getElem a]; exact e⟩
structure OGood(M N:Nat)(fr to:Nat->Nat)(lv:Nat->Bool)(out:List Nat):Prop where
 nd:out.Nodup
 lt:∀v∈out,v<N
 bef:∀i,i<M->lv i=true->∀q,q<out.length->out.getD q 0=to i->∃p,p<q/\out.getD p 0=fr i
theorem Ve{l:List Nat}{v q:Nat}(h:q<l.length):(l++[v]).getD q 0=l.getD q 0:=by
 rw[gq,gq,List.getElem?_append_left h]
theorem v0i{l:List Nat}{v:Nat}:(l++[v]).getD l.length 0=v:=by
 rw[gq,List.getElem?_append_right (Nat.le_refl _),Nat.sub_self];rfl
theorem OGood.snoc{M N:Nat}{fr k:Nat->Nat}{lv:Nat->Bool}{d:List Nat}(h:OGood M N fr k lv d){v:Nat}(n:v<N)(o:v ∉ d)(j:Cm M fr k lv d v=0):OGood M N fr k lv (d++[v]):=by
 refine⟨?_,fun w f=>?_,fun i hi m q u e=>?_⟩
 ·rw[List.nodup_append];exact⟨h.nd,by simp,fun a x b t=>fun e=>o (by rw[<- List.mem_singleton.1 t,<- e]; exact x)⟩
 ·rcases List.mem_append.1 f with f | f
  ·exact h.lt w f
  ·rw[List.mem_singleton.1 f]; exact n
 ·rw[List.length_append,List.length_singleton] at u;by_cases c:q<d.length
  ·rw[Ve c] at e;obtain⟨p,g,l⟩:=h.bef i hi m q c e;exact⟨p,g,by rw[Ve (by omega)]; exact l⟩
  ·have c:q=d.length:=by omega
   subst c;rw[v0i] at e;unfold Cm at j;rw[List.countP_eq_zero] at j;have s:=j i (List.mem_range.2 hi);have r:fr i∈d:=by simpa [m,e] using s
   obtain⟨p,g,l⟩:=C0N r;exact⟨p,g,by rw[Ve g]; exact l⟩
theorem x0z{M N:Nat}{fr a:Nat->Nat}{lv:Nat->Bool}:∀(k:Nat) (out l:List Nat),OGood M N fr a lv out->Hy M N fr a lv k out=some l->OGood M N fr a lv l/\l.length=out.length+k:=by
 intro k
 induction k with
 | zero=>intro out l h e; cases e; exact⟨h,rfl⟩
 | succ k f =>
   intro out l h e;rw[Va] at e;cases hn:U5 M N fr a lv out with
   | none=>rw[hn] at e; cases e
   | some v =>
     rw[hn] at e;obtain⟨b,c⟩:=Qx hn;have d:Cm M fr a lv out v=0:=by
      unfold U5 at hn;have:=List.find?_some hn;simp only[ba,beq_iff_eq] at this;exact this.2
     obtain⟨i,g⟩:=f (out++[v]) l (h.snoc b c d) e;exact⟨i,by rw[g,List.length_append,List.length_singleton]; omega⟩
section
variable {b:j1}
def N8(b:j1)(c:r5)(k:Nat)(sp:Sp):Sp×Sp:=vl (Dz (j9 b) c (k:Int) sp)
theorem Vf{k:Nat}(a:k < (lV b).length):j2 (k:Int) 0 (((lV b).length:Int)-1)=true:=A4.2 oo
theorem Vg(f:wf j6 b)(e:h9 j6 b<=1048576)(i:u3 b=true){c:r5}(a:wf A0 c)(g:J1 c=true){k:Nat}(d:k < (lV b).length):∃dv lv,SpanV b c (k:Int) dv lv/\∀sp,K5 sp=true->N8 b c k sp=FV dv lv sp/\Dz (j9 b) c (k:Int) sp=some (N8 b c k sp):=by
 obtain⟨dv,lv,h⟩:=G0Y f e i a g (Vf d);refine⟨dv,lv,h,fun sp j=>?_⟩;have:=h.spans (Vf d) j;unfold N8;rw[this];exact⟨rfl,rfl⟩
theorem A0Y(i:wf j6 b)(g:h9 j6 b<=1048576)(l:u3 b=true){c:r5}(a:wf A0 c)(j:J1 c=true){k:Nat}(f:k < (lV b).length){sp:Sp}(d:K5 sp=true):0<=(N8 b c k sp).1.1/\(N8 b c k sp).1.1<=(N8 b c k sp).1.2/\(N8 b c k sp).1.2<=5000000/\K5 (N8 b c k sp).2=true:=by
 obtain⟨n,m,h,e⟩:=Vg i g l a j f;rw[(e sp d).1];exact h.ok d
def T0q(x:D8):Bool:=N7 x.1
abbrev N4(b:j1)(br:List Int):Nat->Bool:=fun i=>(C2 (lV b).length br).getD i false
def K0Z(b:j1)(c:r5)(br:List Int)(ss:List Jq)(out:List Nat):Option (Nat->Option D8):=L0a (lV b).length (o4 b) (q8 b) (N4 b br) (N8 b c) (AK ss) T0q out fun _=>none
structure OrdOk(b:j1)(br:List Int)(out:List Nat):Prop where
 nd:out.Nodup
 ahead:Nv (lV b).length (o4 b) (q8 b) (N4 b br) [] out
 all:∀v,v<j7 b->v∈out
 lt:∀v∈out,v<j7 b
theorem y0C{M:Nat}{fr f:Nat->Nat}{lv:Nat->Bool}{N:Nat}{a:List Nat}(h:OGood M N fr f lv a):Nv M fr f lv [] a:=by
 have c:∀(r d:List Nat),a=d++r->Nv M fr f lv d r:=by
  intro r
  induction r with
  | nil=>intro d _; trivial
  | cons v r j =>
    intro d e;refine⟨fun k i m n=>?_,j (d++[v]) (by rw[e,List.append_assoc]; rfl)⟩;have l:a.getD d.length 0=v:=by rw[e,gq,List.getElem?_append_right (Nat.le_refl _),Nat.sub_self]; rfl
    have g:d.length<a.length:=by rw[e,List.length_append,List.length_cons]; omega
    obtain⟨p,b,o⟩:=h.bef k i m d.length g (by rw[l,n]);rw[<- o,e,gq,List.getElem?_append_left b,List.getElem?_eq_getElem b];exact List.getElem_mem b
 exact c a [] rfl
theorem H0p(_:u3 b=true){br:List Int}{a:List Nat}(h:S0 b (C2 (lV b).length br) [] (j7 b)=some a):OrdOk b br a:=by
 have g:OGood (lV b).length (j7 b) (o4 b) (q8 b) (N4 b br) []:=⟨List.nodup_nil,fun _ h=>(by cases h),fun i _ _ q j=>(Nat.not_lt_zero _ j).elim⟩;obtain⟨c,k⟩:=x0z (j7 b) [] a g h;rw[List.length_nil,Nat.zero_add] at k;refine⟨c.nd,y0C c,fun v l=>?_,c.lt⟩;by_cases f:v∈a
 ·exact f
 ·have:=QD (j7 b) (v :: a) (List.nodup_cons.2 ⟨f,c.nd⟩) (fun w d=>by
   rcases List.mem_cons.1 d with e | d
   ·omega
   ·exact c.lt w d)
  rw[List.length_cons] at this;omega
end
section
variable {M:Nat} {fr to:Nat->Nat} {lv:Nat->Bool} {sp:Nat->Sp->Sp×Sp} {src:Nat->Option D8}
end
section
variable {b:j1}
theorem p0Y{s:Sp}:N7 s=true ↔ -1000000000<=s.1/\s.1<=s.2/\s.2<=1000000000:=by
 unfold N7;simp only[ba,dq,A4];omega
structure Ny(N:Nat)(t:Qz):Prop where
 l1:t.1.length=N
 l2:t.2.1.length=N
 l3:t.2.2.length=N
 vals:∀v,v<N->N7 (t.2.1.getD v (0,0))=true/\K5 (t.2.2.getD v (0,0))=true/\(t.1.getD v false=false->t.2.1.getD v (0,0)=(0,0)/\t.2.2.getD v (0,0)=(0,0))
end
theorem D0f{d:List Nat}{v:Nat}(h:v ∉ d)(r:List Nat):(d++v :: r).idxOf v=d.length:=by
 rw[List.idxOf_append,if_neg h,List.idxOf_cons_self];omega
theorem H0D{d:List Nat}{v:Nat}(h:v∈d)(r:List Nat):(d++r).idxOf v<d.length:=by
 rw[List.idxOf_append,if_pos h];exact List.idxOf_lt_length_of_mem h
theorem n0T{M:Nat}{fr a:Nat->Nat}{lv:Nat->Bool}{k:Nat}(b:k<M)(c:lv k=true):∀(r d:List Nat),(d++r).Nodup->Nv M fr a lv d r->a k∈r->fr k∈d++r/\(d++r).idxOf (fr k) < (d++r).idxOf (a k)
 | [],_,_,_,h=>by cases h
 | v :: r,d,hd,ha,h=>by
   by_cases e:a k=v
   ·have f:=ha.1 k b c e;have g:v ∉ d:=fun i=>(List.nodup_append.1 hd).2.2 v i v List.mem_cons_self rfl;rw[e,D0f g];exact⟨List.mem_append_left _ f,H0D f _⟩
   ·have:=n0T b c r (d++[v]) (by rw[List.append_assoc]; exact hd) ha.2 (List.mem_of_ne_of_mem e h)
    rwa [List.append_assoc] at this
theorem OrdOk.pos{b:j1}{br:List Int}{a:List Nat}(h:OrdOk b br a){k:Nat}(c:k < (lV b).length)(e:N4 b br k=true)(d:q8 b k<j7 b):a.idxOf (o4 b k)<a.idxOf (q8 b k)/\o4 b k<j7 b:=by
 have:=n0T c e a [] h.nd h.ahead (h.all _ d);exact⟨this.2,h.lt _ this.1⟩
theorem OrdOk.idx{b:j1}{br:List Int}{a:List Nat}(h:OrdOk b br a){v:Nat}(c:v<j7 b):a.idxOf v<a.length:=List.idxOf_lt_length_of_mem (h.all v c)
def U7(w:Nat->Int×Int)(fr:Nat->Nat):Nat->Nat->List Int->List Int×Int
 | 0,_,_=>([],0)
 | n+1,v,acc=>if(w v).2==0 then(if decide ((w v).1<0) then(acc,0) else U7 w fr n (fr (w v).1.toNat) ((w v).1 :: acc)) else([],(w v).2)
theorem u0P{f e:Type}{w:Nat->Int×Int}{fr:Nat->Nat}(b:Nat->Nat)(I:Nat->List Int->Prop)(h:∀v acc,I v acc->(w v).2=0->0<=(w v).1->I (fr (w v).1.toNat) ((w v).1 :: acc)/\b (fr (w v).1.toNat)<b v)(mk:Nat->List Int->f)(J:List Int->Option e)(E:Int->Option e){F:(f->Option e)->f->Option e}
  (j:∀g v acc,I v acc->F g (mk v acc)=if((w v).2==0)=true then(if decide ((w v).1<0)=true then J acc else g (mk (fr (w v).1.toNat) ((w v).1 :: acc))) else E (w v).2) (v:Nat) (acc:List Int) (d:I v acc) (q:b v<=9223372036854775806) :
  lp F (mk v acc)=if((U7 w fr (b v+1) v acc).2==0)=true then J (U7 w fr (b v+1) v acc).1 else E (U7 w fr (b v+1) v acc).2:=by
 have i:∀(n v:Nat) (acc:List Int),I v acc->b v<=n->∀k,I0 F (k+(n+1)) (mk v acc)=if((U7 w fr (n+1) v acc).2==0)=true then J (U7 w fr (n+1) v acc).1 else E (U7 w fr (n+1) v acc).2:=by
  intro n
  induction n with
  | zero =>
    intro v acc d l k;show F (I0 F k) (mk v acc)=_;rw[j _ _ _ d];unfold U7;by_cases c:((w v).2==0)=true
    ·rw[if_pos c,if_pos c];by_cases a:decide ((w v).1<0)=true
     ·rw[if_pos a,if_pos a]; rfl
     ·have:=(h v acc d (by simpa using c) (by simp only[dq] at a; omega)).2;omega
    ·rw[if_neg c,if_neg c,if_neg c]
  | succ n m =>
    intro v acc d l k;show F (I0 F (k+(n+1))) (mk v acc)=_;rw[j _ _ _ d];unfold U7;by_cases c:((w v).2==0)=true
    ·rw[if_pos c,if_pos c];by_cases a:decide ((w v).1<0)=true
     ·rw[if_pos a,if_pos a]; rfl
     ·rw[if_neg a,if_neg a];obtain⟨o,r⟩:=h v acc d (by simpa using c) (by simp only[dq] at a; omega);exact m _ _ o (by omega) k
    ·rw[if_neg c,if_neg c,if_neg c]
 exact Ck (b v+1) (by omega) fun n=>i (b v) v acc d (Nat.le_refl _) n
end Go.Proofs.YtechodbafnmddaaGreatDoor
end
