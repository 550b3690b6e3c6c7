/- The view of a block: the program's way. -/
import Derived.Test.YtphnknndgfgepaaGreatDoorWE
import Derived.Test.YtphnknndgfgepaaGreatDoorWC
import Derived.Test.YtphnknndgfgepaaGreatDoorF77d
section
namespace Go.Proofs.YtphnknndgfgepaaGreatDoor
open Go Go.Proofs Go.Proofs.Sv Go.Proofs.Xv Go.Proofs.Xl Go.Proofs.Xd
def d0q(b:Y34)(i:Nat)(s:Int×List a0D):Int×List a0D:=c0g (fun i=>(a0c b.2.1 i).2.2.length) (fun i=>a0d (b0H b i)) (fun i=>(b0H b i).2.2.2.1.length) i s
def g0m(b:Y34)(i:Nat):Int:=l0G (a0z b.2.1) i (a0Z b.2.1).length
def f0W(b:Y34):List a0D:=(fN (d0q b) b.2.1.1.length (0,[])).2
def lV(b:Y34):List a0D:=fN (g0q (g0m b) (fun i=>a0t b.2.1 i)) b.2.2.length (f0W b)
def y0b(b:Y34):List Int:=fN (j0f fun i=>(a0L b i).getD 0 0) b.2.2.length []
def s0J(b:Y34):List (List Int):=fN (j0f fun i=>d0J b i) b.2.2.length []
def a0o(b:Y34):c0B:=(b,a0Z b.2.1,lV b,y0b b,s0J b,[])
theorem h0v{b:Y34}(df:DF b.1 b.2.1)(m:Nat)(hm:m<=b.2.1.1.length):0<=(fN (d0q b) m (0,[])).1/\(fN (d0q b) m (0,[])).1<=5*(m:Int)/\(fN (d0q b) m (0,[])).2.length<=32*m :=
 l0w (n:=b.2.1.1.length) (fun i hi=>⟨(df.pin i hi).2,(c0x (b0K df hi).2.1).2.2.1⟩) m hm
def u0b(b:Y34)(i:Nat)(s:List Int×List (List Int)×List a0D):List Int×List (List Int)×List a0D:=(s.1++[(a0L b i).getD 0 0],s.2.1++[d0J b i],g0q (g0m b) (fun i=>a0t b.2.1 i) i s.2.2)
theorem i0K(b:Y34)(z:List a0D):∀m,fN (u0b b) m ([],[],z)=(fN (j0f fun i=>(a0L b i).getD 0 0) m [],fN (j0f fun i=>d0J b i) m [],fN (g0q (g0m b) (fun i=>a0t b.2.1 i)) m z)
 | 0=>rfl
 | m+1=>by
   show u0b b m (fN (u0b b) m ([],[],z))=_;rw[i0K b z m]; rfl
theorem r66(b:Y34)(hw:wf y34 b)(hb:a0e b=true):u66 b=some (a0o b):=by
 obtain⟨hd0,hlen,hwire⟩:=a0C hb;have df:=f0r hd0;have hd:=hw.2.1;have h14:=df.fac.ni14;have h30:=df.fac.nn30;have hpl:=df.len;have hin:b.2.1.1.length<=9223372036854775807:=by omega
 have eN:∀l,d0p l=some (l.length:Int):=fun _=>rfl;unfold u66;rw[r68 b.2.1 hd df.fac.ni14 df.fac.np8 df.pin,vS,gP ⟨rfl,trivial⟩,lE];refine(lF (n:=b.2.1.1.length) hin (fun(i:Nat) (s:Int×List a0D)=>(s.1,(i:Int),s.2)) (d0q b) (fun i s=>0<=s.1/\s.1<=5*(i:Int)/\s.2.length<=32*i) (J:=fun s=>q0E (a0Z b.2.1) b s.2) (F:=B0k b (a0Z b.2.1)) (fun g i s hi hI=>?_) (fun i s hi hI=>?_) (fun g s _=>aE) (0,[]) ⟨Int.le_refl _,Int.le_refl _,Nat.le_refl _⟩).trans ?_
 ·have e3:((i:Int)).toNat=i:=rfl;obtain⟨f,z⟩:=s;obtain⟨i1,i2,i3⟩:=hI;have i1:0<=f:=i1;have i2:f<=5*(i:Int):=i2;have i3:z.length<=32*i:=i3;have hp:=df.pin i hi;have hcl:=b0w f (a0d (b0H b i)) (b0H b i).2.2.2.1.length;have hc8:=(c0x (b0K df hi).2.1).2.2.1;refine(if_pos (by simpa using hi)).trans ?_;rw[e3,gP ⟨oo,trivial⟩,lE];show gd ((x0s b (a0c b.2.1 i) f).isSome=true/\_/\True) _=_;rw[H0n b df hi f i1 (by omega),vS,gP ⟨rfl,oo,trivial⟩,lE];show gd ((d0p (a0c b.2.1 i).2.2).isSome=true/\a0f (f+vl (d0p (a0c b.2.1 i).2.2))/\True) _=_;rw[eN,vS,gP ⟨rfl,oo,trivial⟩,lE];exact gP ⟨oo,trivial⟩
 ·obtain⟨f,z⟩:=s;obtain⟨i1,i2,i3⟩:=hI;have i1:0<=f:=i1;have i2:f<=5*(i:Int):=i2;have i3:z.length<=32*i:=i3;have hp:=df.pin i hi;have hcl:=b0w f (a0d (b0H b i)) (b0H b i).2.2.2.1.length;have hc8:=(c0x (b0K df hi).2.1).2.2.1;refine⟨by show 0<=f+((a0c b.2.1 i).2.2.length:Int); omega,by show f+((a0c b.2.1 i).2.2.length:Int)<=_; omega,?_⟩;show(z++a0P f (a0d (b0H b i)) (b0H b i).2.2.2.1.length).length<=_;rw[List.length_append]; omega
 have hz:=(h0v df _ (Nat.le_refl _)).2.2;have ecl:f0W b=(fN (d0q b) b.2.1.1.length (0,[])).2:=rfl;unfold a0o lV y0b s0J;rw[ecl];generalize (fN (d0q b) b.2.1.1.length (0,[])).2=z at hz;show q0E (a0Z b.2.1) b z=_;have hn30:b.2.2.length<=30:=by omega
 rw[q0E,gP ⟨⟨by omega,rfl,by omega,by omega⟩,trivial⟩,gP ⟨⟨by omega,rfl,by omega,by omega⟩,trivial⟩];show lp (y0B (a0Z b.2.1) b z) (0,List.replicate b.2.2.length [],List.replicate b.2.2.length 0)=_;have hnet:∀i,i < (a0Z b.2.1).length->inB (a0z b.2.1 i).2.2.1 0 ((b.2.2.length:Int)-1)=true:=fun i hi=>by rw[hlen]; exact df.plc _ (f0I hi)
 have gf:=l0z (a0z b.2.1) b.2.2.length;refine(lF (n:=(a0Z b.2.1).length) (by omega) (fun(i:Nat) (s:List (List Int)×List Int)=>((i:Int),s.1,s.2)) (e0v (a0z b.2.1)) (fun i s=>s.1.length=b.2.2.length/\s.2.length=b.2.2.length/\∀k:Nat,(s.1.getD k []).length<=i) (J:=fun s=>y0E b (a0Z b.2.1) z s) (F:=y0B (a0Z b.2.1) b z) (fun g i s hi hI=>?_) (fun i s hi hI=>?_) (fun g s _=>aE) (List.replicate b.2.2.length [],List.replicate b.2.2.length 0) ⟨List.length_replicate,List.length_replicate,fun k=>?_⟩).trans ?_
 ·obtain⟨gr,dr⟩:=s;obtain⟨g1,g2,g3⟩:=hI;have g1:gr.length=b.2.2.length:=g1;have g2:dr.length=b.2.2.length:=g2;have g3:∀k:Nat,(gr.getD k []).length<=i:=g3;have hp:=a0s.1 (hnet i hi);have e3:((i:Int)).toNat=i:=rfl;have j4:∀x y,t0J (i:Int) g (x,y)=g (((i+1:Nat):Int),y,x):=fun x y=>gP ⟨oo,trivial⟩;have g4:=g3 (a0z b.2.1 i).2.2.1.toNat;refine(if_pos (by simpa using hi)).trans ?_;rw[e3,gP ⟨oo,hi,trivial⟩,lE];show(if(a0z b.2.1 i).2.2.2=true then _ else _)=g (_,(e0v (a0z b.2.1) i (gr,dr)).1,(e0v (a0z b.2.1) i (gr,dr)).2);unfold e0v;cases(a0z b.2.1 i).2.2.2 with
  | true =>
    rw[if_pos rfl,if_pos rfl];show gd (ix (a0z b.2.1 i).2.2.1 dr.length/\_/\True) _=_;rw[gP ⟨oo,by show(a0z b.2.1 i).2.2.1.toNat<_; omega,trivial⟩,j4]
  | false =>
    rw[if_neg (by simp),if_neg (by simp)];show gd (ix (a0z b.2.1 i).2.2.1 gr.length/\_) _=_;rw[gP ⟨oo,by show(a0z b.2.1 i).2.2.1.toNat<_; omega,⟨by show(gr.getD (a0z b.2.1 i).2.2.1.toNat []).length+1<=_; omega,by show((gr.getD (a0z b.2.1 i).2.2.1.toNat []).length+1)*8<=_; omega⟩,⟨by show 0<=(a0z b.2.1 i).2.2.1; omega,by show(a0z b.2.1 i).2.2.1<_; omega⟩,⟨by show(a0z b.2.1 i).2.2.1.toNat<_; omega,rfl⟩,trivial⟩,lE,j4]
 ·obtain⟨gr,dr⟩:=s;obtain⟨g1,g2,g3⟩:=hI;have g1:gr.length=b.2.2.length:=g1;have g2:dr.length=b.2.2.length:=g2;have g3:∀k:Nat,(gr.getD k []).length<=i:=g3;have hp:=a0s.1 (hnet i hi);unfold e0v;split
  ·exact⟨g1,by show(dr.set _ _).length=_; rw[List.length_set]; exact g2,fun k=>by have:=g3 k; show(gr.getD k []).length<=_; omega⟩
  ·refine⟨by show(gr.set _ _).length=_; rw[List.length_set]; exact g1,g2,fun k=>?_⟩;show((gr.set (a0z b.2.1 i).2.2.1.toNat (gr.getD (a0z b.2.1 i).2.2.1.toNat []++[(i:Int)])).getD k []).length<=_;rw[f0o (by omega)];have:=g3 k;have:=g3 (a0z b.2.1 i).2.2.1.toNat;split
   ·rw[List.length_append]; show _+1<=_; omega
   ·omega
 ·show((List.replicate b.2.2.length ([]:List Int)).getD k []).length<=0;rw[gq,List.getElem?_replicate];split <;> exact Nat.le_refl _
 obtain⟨gl,dl,gd'⟩:=gf (a0Z b.2.1).length hnet;generalize fN (e0v (a0z b.2.1)) (a0Z b.2.1).length (List.replicate b.2.2.length [],List.replicate b.2.2.length 0)=s at gl dl gd';obtain⟨gr,dr⟩:=s;have gl:gr.length=b.2.2.length:=gl;have dl:dr.length=b.2.2.length:=dl;have hgr:∀k:Nat,k<b.2.2.length->gr.getD k []=a0t b.2.1 k:=fun k hk=>(gd' k hk).1;have hdr:∀k:Nat,k<b.2.2.length->dr.getD k 0=g0m b k:=fun k hk=>(gd' k hk).2;show lp (y0A dr gr b (a0Z b.2.1)) (0,[],[],z)=_;refine(lF (n:=b.2.2.length) (by omega) (fun(i:Nat) (s:List Int×List (List Int)×List a0D)=>((i:Int),s.1,s.2.1,s.2.2)) (u0b b) (fun i s=>s.1.length=i/\s.2.1.length=i/\s.2.2.length<=500+160*i) (J:=fun s=>some (b,a0Z b.2.1,s.2.2,s.1,s.2.1,[])) (F:=y0A dr gr b (a0Z b.2.1)) (fun g i s hi hI=>?_) (fun i s hi hI=>?_) (fun g s _=>aE) ([],[],z) ⟨rfl,rfl,by show z.length<=_; omega⟩).trans ?_
 ·obtain⟨s1,s2,s3⟩:=s;obtain⟨i1,i2,i3⟩:=hI;have i1:s1.length=i:=i1;have i2:s2.length=i:=i2;have i3:s3.length<=500+160*i:=i3;have hno:=l0j hb hi;have n1:=hno.wf.n1;have hs78:=hno.s78;have hll:=hno.loads.1;have e3:((i:Int)).toNat=i:=rfl;refine(if_pos (by simpa using hi)).trans ?_;rw[F0z b hw hno,vS,gP ⟨rfl,oo,by show 0<_; omega,⟨by show s1.length+1<=_; omega,by show(s1.length+1)*8<=_; omega⟩,trivial⟩,lE,H0m b hw hno,vS,gP ⟨rfl,⟨by show s2.length+1<=_; omega,by show(s2.length+1)*24<=_; omega⟩,trivial⟩,lE,gP ⟨oo,trivial⟩];have hsn:=hgr i hi;have hdn:=hdr i hi;have hdv:=m0T (a0z b.2.1) i (a0Z b.2.1).length;have hdv:0<=g0m b i/\g0m b i<=((a0Z b.2.1).length:Int):=hdv;show lp (m0n dr (i:Int) gr s2 (d0J b i) s1 (a0L b i) g) (0,s3)=g (_,s1++[(a0L b i).getD 0 0],s2++[d0J b i],g0q (g0m b) (fun i=>a0t b.2.1 i) i s3);refine(lF (n:=(a0t b.2.1 i).length) (by omega) (fun(k:Nat) (s:List a0D)=>((k:Int),s)) (d0o (g0m b i) (a0t b.2.1 i)) (fun k y=>y.length=s3.length+2*k) (J:=fun y=>y0D (i:Int) g (s2++[d0J b i],s1++[(a0L b i).getD 0 0],y)) (F:=m0n dr (i:Int) gr s2 (d0J b i) s1 (a0L b i) g) (fun g8 k y hk hy=>?_) (fun k y hk hy=>?_) (fun g8 y _=>?_) s3 rfl).trans ?_
  ·have hy:y.length=s3.length+2*k:=hy;obtain⟨k1,k2⟩:=e0Z hk;have e4:((k:Int)).toNat=k:=rfl;show m0n dr (i:Int) gr s2 (d0J b i) s1 (a0L b i) g g8 ((k:Int),y)=_;rw[m0n,e3,hsn,if_pos (by simpa using hk),gP ⟨oo,trivial⟩];show _=g8 (_,d0o (g0m b i) (a0t b.2.1 i) k y);refine(lF (n:=2) (by decide) (fun(t:Nat) (x:List a0D)=>((t:Int),x)) (q0o (g0m b i) ((a0t b.2.1 i).getD k 0) (k:Int)) (fun t x=>x.length=y.length+t) (J:=fun x=>y0C (k:Int) g8 x) (F:=i0o dr (i:Int) gr (k:Int) g8) (fun g10 t x ht hx=>?_) (fun t x ht hx=>?_) (fun g10 x _=>?_) y rfl).trans ?_
   ·have hx:x.length=y.length+t:=hx;show i0o dr (i:Int) gr (k:Int) g8 g10 ((t:Int),x)=_;rw[i0o,e3,e4,hsn,hdn,if_pos (decide_eq_true (by omega)),gP ⟨oo,by omega,oo,oo,oo,oo,⟨by show x.length+1<=_; omega,by show(x.length+1)*32<=_; omega⟩,trivial⟩,lE];exact gP ⟨oo,trivial⟩
   ·have hx:x.length=y.length+t:=hx;unfold q0o;rw[List.length_append,hx]; rfl
   ·show i0o dr (i:Int) gr (k:Int) g8 g10 (((2:Nat):Int),x)=_;rw[i0o];exact if_neg (by decide)
   ·exact gP ⟨oo,trivial⟩
  ·have hy:y.length=s3.length+2*k:=hy;rw[f0x,hy]; omega
  ·show m0n dr (i:Int) gr s2 (d0J b i) s1 (a0L b i) g g8 (((a0t b.2.1 i).length:Int),y)=_;rw[m0n,e3,hsn];exact if_neg (by simp)
  ·exact gP ⟨oo,trivial⟩
 ·obtain⟨s1,s2,s3⟩:=s;obtain⟨i1,i2,i3⟩:=hI;have i1:s1.length=i:=i1;have i2:s2.length=i:=i2;have i3:s3.length<=500+160*i:=i3;have hs78:=(l0j hb hi).s78;refine⟨by show(s1++_).length=_; rw[List.length_append,i1]; rfl,by show(s2++_).length=_; rw[List.length_append,i2]; rfl,?_⟩;show(g0q (g0m b) (fun i=>a0t b.2.1 i) i s3).length<=_;unfold g0q;rw[e0L];show s3.length+2*(a0t b.2.1 i).length<=500+160*(i+1);omega
 ·rw[i0K]
end Go.Proofs.YtphnknndgfgepaaGreatDoor
end
section
namespace Go.Proofs.Xd
open Go Go.Proofs Go.Proofs.Xl
def s0W(f:Int)(a:e0I)(j:Nat)(t:Nat):a0D:=(2*(f+a.2.1)+((b0o a.1 a.2.2.2.1).getD t (0,0)).1,2*(f+a.2.2.1)+((b0o a.1 a.2.2.2.1).getD t (0,0)).2,1,(j:Int))
def m0k(d s:Int)(k t:Nat):a0D:=(2*d+(t:Int),2*s+(t:Int),2,(k:Int))
theorem j0b{f a b x:Int}{tr:List (Int×Int)}{s:List a0D}{l:a0D}:∀k,l∈fN (c0b f a b x tr) k s->l∈s∨∃t,t<k/\l=(2*(f+a)+(tr.getD t (0,0)).1,2*(f+b)+(tr.getD t (0,0)).2,1,x)
 | 0,h=>.inl h
 | k+1,h=>by
   rcases List.mem_append.1 (show l∈fN (c0b f a b x tr) k s++[_] from h) with h | h
   ·rcases j0b k h with h | ⟨t,ht,e⟩
    ·exact .inl h
    ·exact .inr ⟨t,by omega,e⟩
   ·exact .inr ⟨k,by omega,List.mem_singleton.1 h⟩
theorem l0P{f:Int}{arcs:Nat->e0I}{s:List a0D}{l:a0D}:∀m,l∈fN (d0w f arcs) m s->l∈s∨∃j t,j<m/\t < (b0o (arcs j).1 (arcs j).2.2.2.1).length/\l=s0W f (arcs j) j t
 | 0,h=>.inl h
 | m+1,h=>by
   rcases j0b _ (show l∈fN (c0b f _ _ (m:Int) _) _ (fN (d0w f arcs) m s) from h) with h | ⟨t,ht,e⟩
   ·rcases l0P m h with h | ⟨j,t,hj,ht,e⟩
    ·exact .inl h
    ·exact .inr ⟨j,t,by omega,ht,e⟩
   ·exact .inr ⟨m,t,by omega,ht,e⟩
theorem f0R{nets:Nat->Nat}{arcs:Nat->Nat->e0I}{ms:Nat->Nat}{x:Nat->b0j}(hx:∀i,nets i=(x i).2.2.length):∀m,(fN (c0g nets arcs ms) m (0,[])).1=(b0J x m:Int)
 | 0=>rfl
 | m+1=>by
   show(fN (c0g nets arcs ms) m (0,[])).1+(nets m:Int)=((b0J x m+(x m).2.2.length:Nat):Int);rw[f0R hx m,hx m]; omega
theorem i0T{nets:Nat->Nat}{arcs:Nat->Nat->e0I}{ms:Nat->Nat}{x:Nat->b0j}(hx:∀i,nets i=(x i).2.2.length){l:a0D}:∀m,l∈(fN (c0g nets arcs ms) m (0,[])).2->∃i j t,i<m/\j<ms i/\t < (b0o (arcs i j).1 (arcs i j).2.2.2.1).length/\l=s0W (b0J x i:Int) (arcs i j) j t
 | 0,h=>by cases h
 | m+1,h=>by
   rcases List.mem_append.1 (show l∈(fN (c0g nets arcs ms) m (0,[])).2++a0P _ _ _ from h) with h | h
   ·obtain⟨i,j,t,hi,hr⟩:=i0T hx m h;exact⟨i,j,t,by omega,hr⟩
   ·rcases l0P _ h with h | ⟨j,t,hj,ht,e⟩
    ·cases h
    ·rw[f0R hx m] at e;exact⟨m,j,t,by omega,hj,ht,e⟩
theorem i0m{d:Int}{sn:List Int}{z:List a0D}{l:a0D}:∀k,l∈fN (d0o d sn) k z->l∈z∨∃j t,j<k/\t<2/\l=m0k d (sn.getD j 0) j t
 | 0,h=>.inl h
 | k+1,h=>by
   have h:l∈(fN (d0o d sn) k z++[m0k d (sn.getD k 0) k 0])++[m0k d (sn.getD k 0) k 1]:=h;rcases List.mem_append.1 h with h | h
   ·rcases List.mem_append.1 h with h | h
    ·rcases i0m k h with h | ⟨j,t,hj,ht,e⟩
     ·exact .inl h
     ·exact .inr ⟨j,t,by omega,ht,e⟩
    ·exact .inr ⟨k,0,by omega,by omega,List.mem_singleton.1 h⟩
   ·exact .inr ⟨k,1,by omega,by omega,List.mem_singleton.1 h⟩
theorem l0k{d:Nat->Int}{sn:Nat->List Int}{z:List a0D}{l:a0D}:∀m,l∈fN (g0q d sn) m z->l∈z∨∃i j t,i<m/\j < (sn i).length/\t<2/\l=m0k (d i) ((sn i).getD j 0) j t
 | 0,h=>.inl h
 | m+1,h=>by
   rcases i0m _ (show l∈fN (d0o (d m) (sn m)) _ (fN (g0q d sn) m z) from h) with h | ⟨j,t,hj,ht,e⟩
   ·rcases l0k m h with h | ⟨i,j,t,hi,hr⟩
    ·exact .inl h
    ·exact .inr ⟨i,j,t,by omega,hr⟩
   ·exact .inr ⟨m,j,t,by omega,hj,ht,e⟩
theorem f0X(f a b x:Int)(tr:List (Int×Int))(s:List a0D):∀k,fN (c0b f a b x tr) k s=s++fN (c0b f a b x tr) k []
 | 0=>(List.append_nil _).symm
 | k+1=>by
   show fN (c0b f a b x tr) k s++[_]=s++(fN (c0b f a b x tr) k []++[_]);rw[f0X f a b x tr s k,List.append_assoc]
theorem l0Q(f:Int)(arcs:Nat->e0I)(s:List a0D):∀m,fN (d0w f arcs) m s=s++a0P f arcs m
 | 0=>(List.append_nil _).symm
 | m+1=>by
   show d0w f arcs m (fN (d0w f arcs) m s)=s++d0w f arcs m (a0P f arcs m);rw[l0Q f arcs s m];unfold d0w;rw[f0X,f0X _ _ _ _ _ (a0P f arcs m),List.append_assoc]
end Go.Proofs.Xd
end
section
namespace Go.Proofs.YtphnknndgfgepaaGreatDoor
open Go Go.Proofs Go.Proofs.Sv Go.Proofs.Xv Go.Proofs.Xl Go.Proofs.Xd
theorem E0p(l:List a0D)(f t a b k i:Int)(hf:0<=f/\f<=1000)(ht:0<=t/\t<=1000)(ha:0<=a/\a<=1)(hb:0<=b/\b<=1)(hl:l.length<=100000):x0y l f t a b k i=some (l++[(2*f+a,2*t+b,k,i)]) :=
 gP ⟨oo,oo,oo,oo,⟨by show l.length+1<=_; omega,by show(l.length+1)*32<=_; omega⟩,trivial⟩
def C0x(k s:Int)(x y:Nat):Bool:=if(k==1)=true then s==3||(s==1)==((x:Int)==(y:Int)) else if(k==2)=true then(x:Int)==0 else if(k==3)=true then(x:Int)==1 else false
def q0l(k s f t i:Int)(x y:Nat)(l:List a0D):List a0D:=if C0x k s x y=true then l++[(2*f+(x:Int),2*t+(y:Int),1,i)] else l
theorem o0V(k s f t i:Int)(x y:Nat)(l:List a0D):(q0l k s f t i x y l).length<=l.length+1:=by
 unfold q0l;split
 ·rw[List.length_append]; exact Nat.le_refl _
 ·omega
theorem l0U(k s f t i:Int)(x:Nat)(l:List a0D):∀n,(fN (q0l k s f t i x) n l).length<=l.length+n
 | 0=>Nat.le_refl _
 | n+1=>by
   have h:=l0U k s f t i x l n;have:=o0V k s f t i x n (fN (q0l k s f t i x) n l);show(q0l k s f t i x n (fN (q0l k s f t i x) n l)).length<=_;omega
theorem H0s(a:c0f)(l:List a0D)(f t i:Int)(hf:0<=f/\f<=1000)(ht:0<=t/\t<=1000)(hl:l.length<=90000):y0N l a f t i=some (fN (fun x s=>fN (q0l a.1 a.2.2.2.1 f t i x) 2 s) 2 l):=by
 unfold y0N;refine lF (n:=2) (by decide) (fun(x:Nat) (s:List a0D)=>((x:Int),s)) (fun x s=>fN (q0l a.1 a.2.2.2.1 f t i x) 2 s) (fun x s=>s.length<=l.length+2*x) (J:=fun s=>some s) (F:=n0M f t i a) (fun g x s hx hI=>?_) (fun x s hx hI=>?_) (fun g s _=>by
  show n0M f t i a g (((2:Nat):Int),s)=_;rw[n0M];exact if_neg (by decide)) l (Nat.le_refl _)
 ·have hI:s.length<=l.length+2*x:=hI;refine(if_pos (decide_eq_true (by omega))).trans ?_;refine(lF (n:=2) (by decide) (fun(y:Nat) (s:List a0D)=>((y:Int),s)) (q0l a.1 a.2.2.2.1 f t i x) (fun y s=>s.length<=l.length+2*x+y) (J:=fun s=>r0h (x:Int) g s) (F:=n0L f t (x:Int) i a g) (fun g' y s hy hI=>?_) (fun y s hy hI=>?_) (fun g' s _=>by
   show n0L f t (x:Int) i a g g' (((2:Nat):Int),s)=_;rw[n0L];exact if_neg (by decide)) s hI).trans ?_
  ·have hI:s.length<=l.length+2*x+y:=hI;have j4:∀v,n0N (y:Int) g' v=g' (((y+1:Nat):Int),v):=fun v=>gP ⟨oo,trivial⟩;have j5:∀v,g0d (y:Int) s f t (x:Int) i g' v=g' (((y+1:Nat):Int),if v=true then s++[(2*f+(x:Int),2*t+(y:Int),1,i)] else s):=fun v=>by
    cases v with
    | true=>rw[g0d,if_pos rfl,if_pos rfl,E0p s f t x y 1 i hf ht (by omega) (by omega) (by omega),gP ⟨rfl,trivial⟩,vS,lE,j4]
    | false=>rw[g0d,if_neg (by simp),if_neg (by simp),j4]
   refine(if_pos (decide_eq_true (by omega))).trans ?_;show _=g' (((y+1:Nat):Int),q0l a.1 a.2.2.2.1 f t i x y s);unfold q0l C0x;rw[j5,j5,j5,j5];by_cases h1:(a.1==1)=true
   ·rw[if_pos h1,if_pos h1]
   rw[if_neg h1,if_neg h1];by_cases h2:(a.1==2)=true
   ·rw[if_pos h2,if_pos h2]
   rw[if_neg h2,if_neg h2];by_cases h3:(a.1==3)=true
   ·rw[if_pos h3,if_pos h3]
   rw[if_neg h3,if_neg h3]
  ·have hI:s.length<=l.length+2*x+y:=hI;have:=o0V a.1 a.2.2.2.1 f t i x y s;omega
  ·exact gP ⟨oo,trivial⟩
 ·have hI:s.length<=l.length+2*x:=hI;have:=l0U a.1 a.2.2.2.1 f t i x s 2;omega
theorem t0g{k s:Int}(h:(k=1/\(s=1∨s=2∨s=3))∨k=2∨k=3)(fo A B i:Int)(l:List a0D):fN (fun x z=>fN (q0l k s (fo+A) (fo+B) i x) 2 z) 2 l=fN (c0b fo A B i (b0o k s)) (b0o k s).length l:=by
 rcases h with ⟨rfl,rfl | rfl | rfl⟩ | rfl | rfl <;> rfl
theorem i0V{b:Nat->Bool}{n m:Nat}(hm:m<n)(h1:b m=true)(h2:∀j,j<m->b j=false):(List.range n).find? b=some m:=by
 rw[List.find?_range_eq_some];refine⟨h1,List.mem_range.2 hm,fun j hj=>?_⟩;rw[h2 j hj]; rfl
theorem H0r(d:Y31)(hd:wf y31 d){l:List a0y}(df:DF l d){i k:Nat}(hi:i<d.1.length)(hk:k < (a0c d i).2.2.length):m0p d (i:Int) (k:Int)=some ((b0J (a0c d) i+k:Nat):Int)/\b0J (a0c d) i+k < (a0Z d).length:=by
 have hl:=df.len;have hlt:b0J (a0c d) i+k < (a0Z d).length:=by
  have:=j0F (a0c d) hi hk;unfold a0Z;rw[c0R]; omega
 refine⟨?_,hlt⟩;unfold m0p;rw[D0L d hd df.fac.ni14 df.fac.np8 df.pin,vS,gP ⟨rfl,trivial⟩,lE];have ho:∀j,j < (a0Z d).length->((a0z d j).1==(i:Int)&&(a0z d j).2.1==(k:Int))=decide (j=b0J (a0c d) i+k):=fun j hj=>p0C d.1.length d.2.2.length (a0c d) (a0I d) (a0a y105) hi hk hj;have key:=b0S (n:=(a0Z d).length) (by omega) (fun j=>(a0z d j).1==(i:Int)&&(a0z d j).2.1==(k:Int)) (F:=x0B (a0Z d) (i:Int) (k:Int)) (fun g j hj=>by
  have e3:((j:Int)).toNat=j:=rfl;refine(if_pos (by simpa using hj)).trans ?_;rw[e3,gP ⟨oo,hj,(fun _=>oo),(fun _=>hj),trivial⟩,gP ⟨oo,trivial⟩]) (fun g=>aE)
 refine key.trans ?_;rw[i0V hlt (by rw[ho _ hlt,decide_eq_true rfl]) (fun j hj=>by rw[ho j (by omega)]; exact decide_eq_false (by omega))]
theorem s0G{b:Y34}(hb:a0e b=true){t:Nat}(ht:t<b.2.2.length):l0O (m0e (a0z b.2.1) t) (a0Z b.2.1).length=1:=by
 obtain⟨hd,hlen,_⟩:=a0C hb;have df:=f0r hd;have hD:b0E _ _ _ _ _ _ _ _ _=true:=hd;unfold b0E at hD;rw[ba] at hD;have hx:∀i,i<b.2.1.1.length->1<=(a0c b.2.1 i).2.2.length/\inB ((a0c b.2.1 i).2.2.getD ((a0c b.2.1 i).2.2.length-1) 0) 0 ((b.2.1.2.1.length:Int)-1)=true:=fun i hi=>by
  have h1:=(df.pin i hi).1;exact⟨h1,df.fac.net.1 i hi _ (by omega)⟩
 obtain⟨p1,p2⟩:=o0b (d:=a0a y105) hx (fun i hi=>df.fac.net.2 i hi) b.2.1.2.2.length (Nat.le_refl _);have hall:=e0f (p:=fun x=>x==1) hD.2 (i:=t) (by
  unfold g0n;rw[p1]; omega)
 have h1:(g0n b.2.1.1.length b.2.1.2.2.length b.2.1.2.1.length (a0c b.2.1) (a0I b.2.1)).getD t 0=1:=beq_iff_eq.1 hall;have h2:=p2 t (by omega);unfold g0n at h1;rw[h1] at h2;have h3:(a0Z b.2.1).length=b0J (a0c b.2.1) b.2.1.1.length+b.2.1.2.2.length:=c0R _ _ _ _;rw[h3];exact Int.ofNat.inj h2.symm
theorem H0q(b:Y34)(hw:wf y34 b)(hb:a0e b=true){t:Nat}(ht:t<b.2.2.length):B0T b.2.1 (t:Int)=some (g0m b t)/\0<=g0m b t/\(g0m b t).toNat < (a0Z b.2.1).length:=by
 have df:=f0r (a0C hb).1;have hl:=df.len;obtain⟨i,h1,h2,h3,h4⟩:=s0F (s0G hb ht);have hv:g0m b t=(i:Int):=h4;refine⟨?_,by omega,by omega⟩;unfold B0T;rw[D0L b.2.1 hw.2.1 df.fac.ni14 df.fac.np8 df.pin,vS,gP ⟨rfl,trivial⟩,lE];have key:=b0S (n:=(a0Z b.2.1).length) (by omega) (m0e (a0z b.2.1) t) (F:=x0z (a0Z b.2.1) (t:Int)) (fun g j hj=>by
  have e3:((j:Int)).toNat=j:=rfl;refine(if_pos (by simpa using hj)).trans ?_;rw[e3,gP ⟨oo,hj,(fun _=>oo),(fun _=>hj),trivial⟩,gP ⟨oo,trivial⟩];rfl) (fun g=>aE)
 refine key.trans ?_;rw[i0V h1 h2 (fun j hj=>by rw[h3 j (by omega)]; exact decide_eq_false (by omega)),hv]
theorem t0f{c:a0y}(h:d0u a0J c=true){j:Nat}(hj:j<c.2.2.2.1.length):a0J c.2.2.1.length (a0l c) (a0d c j)=true:=by
 have h:c0z a0J _ _ _ _ _ _ _ _ _=true:=h;unfold c0z n0f at h;simp only[ba,dq] at h;have:=b0B.1 h.1.1.1.2.2 j hj;rw[Bool.or_eq_false_iff,Bool.not_eq_false'] at this;exact this.1
theorem v0P{n:Nat}{p:Nat->i0l}{a:e0I}(h:a0J n p a=true)(hk:a.1<=3):((a.1=1/\(a.2.2.2.1=1∨a.2.2.2.1=2∨a.2.2.2.1=3))∨a.1=2∨a.1=3)/\a0m a.2.2.2.2.1 true=true/\a0m a.2.2.2.2.2 true=true:=by
 unfold a0J at h;simp only[ba] at h;obtain⟨_,h⟩:=h;by_cases h1:a.1=1
 ·rw[if_pos h1] at h;simp only[ba] at h;have:=a0s.1 h.1.1.2;exact⟨.inl ⟨h1,by omega⟩,h.1.2,h.2⟩
 rw[if_neg h1] at h;by_cases h2:a.1=2∨a.1=3
 ·rw[if_pos h2] at h;simp only[ba] at h;exact⟨.inr h2,h.1.2,h.2⟩
 rw[if_neg h2] at h;by_cases h3:a.1=4∨a.1=5
 ·omega
 ·rw[if_neg h3] at h; cases h
theorem p0q{k s:Int}(h:3<k):b0o k s=[]:=by
 unfold b0o;rw[if_neg (by rw[beq_iff_eq]; omega),if_neg (by rw[beq_iff_eq]; omega),if_pos (by rw[bne_iff_ne]; omega)]
def n0b(b:Y34)(i:Nat)(s:List a0D):List a0D:=s++a0P (b0J (a0c b.2.1) i) (a0d (b0H b i)) (b0H b i).2.2.2.1.length
theorem g0a(b:Y34):∀n,fN (n0b b) n []=(fN (d0q b) n (0,[])).2
 | 0=>rfl
 | n+1=>by
   show n0b b n (fN (n0b b) n [])=(fN (d0q b) n (0,[])).2++a0P (fN (d0q b) n (0,[])).1 (a0d (b0H b n)) (b0H b n).2.2.2.1.length;have h1:(fN (d0q b) n (0,[])).1=(b0J (a0c b.2.1) n:Int):=f0R (fun _=>rfl) n;rw[g0a b n,h1]; rfl
theorem p0r{b:Y34}(df:DF b.1 b.2.1){t:Int}{k:Nat}(hk:k < (a0t b.2.1 t).length):0<=(a0t b.2.1 t).getD k 0/\(a0t b.2.1 t).getD k 0<=1000:=by
 have:=e0Z hk;have:=df.len;omega
theorem r59(b:Y34)(hw:wf y34 b)(hb:a0e b=true):u59 b=some (lV b):=by
 obtain⟨hd0,hlen,hwire⟩:=a0C hb;have df:=f0r hd0;have hd:=hw.2.1;have h14:=df.fac.ni14;have h30:=df.fac.nn30;have hpl:=df.len;unfold u59;refine(lF (n:=b.2.1.1.length) (by omega) (fun(i:Nat) (s:List a0D)=>((i:Int),s)) (n0b b) (fun i s=>s.length<=32*i) (J:=t0M b) (F:=B0u b) (fun g i s hi hI=>?_) (fun i s hi hI=>?_) (fun g s _=>aE) [] (Nat.le_refl _)).trans ?_
 ·have hI:s.length<=32*i:=hI;have e3:((i:Int)).toNat=i:=rfl;obtain⟨x1,x2,x3⟩:=b0K df hi;obtain⟨c1,c2,c3,c4⟩:=c0x x2;have hfind:=fun k hk=>H0r b.2.1 hd df (i:=i) (k:=k) hi hk;refine(if_pos (by simpa using hi)).trans ?_;rw[e3,gP ⟨oo,x1,trivial⟩,lE];refine(lF (n:=(b0H b i).2.2.2.1.length) (by omega) (fun(j:Nat) (z:List a0D)=>((j:Int),z)) (d0w (b0J (a0c b.2.1) i) (a0d (b0H b i))) (fun j z=>z.length<=s.length+4*j) (J:=y0G (i:Int) g) (F:=B0t (b0H b i) b (i:Int) g) (fun g' j z hj hz=>?_) (fun j z hj hz=>?_) (fun g' z _=>aE) s (Nat.le_refl _)).trans ?_
  ·have hz:z.length<=s.length+4*j:=hz;have e4:((j:Int)).toNat=j:=rfl;obtain⟨a1,a2,a3,a4⟩:=c4 j hj;have ha:=t0f x2 hj;have j4:∀v,q0F (j:Int) g' v=g' (((j+1:Nat):Int),v):=fun v=>gP ⟨oo,trivial⟩;refine(if_pos (by simpa using hj)).trans ?_;rw[e4,gP ⟨oo,trivial⟩];show(if decide ((a0d (b0H b i) j).1<=3)=true then _ else _)=g' (((j+1:Nat):Int),d0w (b0J (a0c b.2.1) i) (a0d (b0H b i)) j z);by_cases hk:(a0d (b0H b i) j).1<=3
   ·refine(if_pos (decide_eq_true hk)).trans ?_;obtain⟨k1,k2,k3⟩:=v0P ha hk;obtain⟨A,hA⟩:∃A:Nat,(a0d (b0H b i) j).2.1=(A:Int):=⟨(a0d (b0H b i) j).2.1.toNat,by omega⟩;obtain⟨B,hB⟩:∃B:Nat,(a0d (b0H b i) j).2.2.1=(B:Int):=⟨(a0d (b0H b i) j).2.2.1.toNat,by omega⟩;obtain⟨fA,lA⟩:=hfind A (by omega);obtain⟨fB,lB⟩:=hfind B (by omega);have hs:=H0s (a0d (b0H b i) j) z ((b0J (a0c b.2.1) i+A:Nat):Int) ((b0J (a0c b.2.1) i+B:Nat):Int) (j:Int) (by omega) (by omega) (by omega);have ee:=t0g k1 (b0J (a0c b.2.1) i:Int) (A:Int) (B:Int) (j:Int) z;rw[<- Int.natCast_add,<- Int.natCast_add] at ee;rw[ee] at hs;show gd (ix (j:Int) (b0H b i).2.2.2.1.length/\ix (j:Int) (b0H b i).2.2.2.1.length/\(m0p b.2.1 (i:Int) (a0d (b0H b i) j).2.1).isSome=true/\ix (j:Int) (b0H b i).2.2.2.1.length/\(m0p b.2.1 (i:Int) (a0d (b0H b i) j).2.2.1).isSome=true/\(y0N z (a0d (b0H b i) j) (vl (m0p b.2.1 (i:Int) (a0d (b0H b i) j).2.1)) (vl (m0p b.2.1 (i:Int) (a0d (b0H b i) j).2.2.1)) (j:Int)).isSome=true/\True) (lt (vl (y0N z (a0d (b0H b i) j) (vl (m0p b.2.1 (i:Int) (a0d (b0H b i) j).2.1)) (vl (m0p b.2.1 (i:Int) (a0d (b0H b i) j).2.2.1)) (j:Int))) fun v=>q0F (j:Int) g' v)=_;rw[hA,hB,fA,fB,vS,vS,hs,vS,gP ⟨oo,oo,rfl,oo,rfl,rfl,trivial⟩,lE,j4];unfold d0w;rw[hA,hB]
   ·refine(if_neg (by simpa using hk)).trans ?_;rw[j4];unfold d0w;rw[p0q (by omega)];rfl
  ·have hz:z.length<=s.length+4*j:=hz;have:=h0K (b0J (a0c b.2.1) i) (a0d (b0H b i)) j z;omega
  ·rw[l0Q];exact gP ⟨oo,trivial⟩
 ·have hI:s.length<=32*i:=hI;obtain⟨x1,x2,x3⟩:=b0K df hi;have c3:=(c0x x2).2.2.1;have:=b0w (b0J (a0c b.2.1) i) (a0d (b0H b i)) (b0H b i).2.2.2.1.length;unfold n0b;rw[List.length_append];omega
 ·have hcl:(fN (n0b b) b.2.1.1.length []).length<=500:=by
   have:=h0v df b.2.1.1.length (Nat.le_refl _);rw[g0a];omega
  have hcv:fN (n0b b) b.2.1.1.length []=f0W b:=g0a b _;unfold lV;rw[hcv] at hcl ⊢;generalize f0W b=z at hcl ⊢;unfold t0M;rw[hlen];refine lF (n:=b.2.1.2.1.length) (by omega) (fun(i:Nat) (s:List a0D)=>((i:Int),s)) (g0q (g0m b) (fun i=>a0t b.2.1 i)) (fun i s=>s.length<=500+160*i) (J:=fun s=>some s) (F:=B0s b) (fun g i s hi hI=>?_) (fun i s hi hI=>?_) (fun g s _=>aE) z hcl
  ·have hI:s.length<=500+160*i:=hI;have hi':i<b.2.2.length:=by omega
   have hs78:=(l0j hb hi').s78;obtain⟨d1,d2,d3⟩:=H0q b hw hb hi';have es:u71 b.2.1 (i:Int)=some (a0t b.2.1 i):=r71 b.2.1 hd df _;refine(if_pos (by simpa using hi)).trans ?_;rw[d1,vS,gP ⟨rfl,trivial⟩,lE,es,vS,gP ⟨rfl,trivial⟩,lE];refine(lF (n:=(a0t b.2.1 i).length) (by omega) (fun(k:Nat) (y:List a0D)=>((k:Int),y)) (d0o (g0m b i) (a0t b.2.1 i)) (fun k y=>y.length=s.length+2*k) (J:=y0F (i:Int) g) (F:=B0r (g0m b i) (a0t b.2.1 i) (i:Int) g) (fun g8 k y hk hy=>?_) (fun k y hk hy=>?_) (fun g8 y _=>aE) s rfl).trans ?_
   ·have hy:y.length=s.length+2*k:=hy;have e4:((k:Int)).toNat=k:=rfl;have hsp:=p0r df hk;have p1:=E0p y (g0m b i) ((a0t b.2.1 i).getD k 0) 0 0 2 (k:Int) (by omega) hsp oo oo (by omega);have p2:=E0p (y++[(2*g0m b i+0,2*(a0t b.2.1 i).getD k 0+0,2,(k:Int))]) (g0m b i) ((a0t b.2.1 i).getD k 0) 1 1 2 (k:Int) (by omega) hsp oo oo (by rw[List.length_append]; show y.length+1<=_; omega);refine(if_pos (by simpa using hk)).trans ?_;rw[e4,p1,vS,gP ⟨oo,hk,rfl,trivial⟩,lE,p2,vS,gP ⟨oo,hk,rfl,trivial⟩,lE];exact gP ⟨oo,trivial⟩
   ·have hy:y.length=s.length+2*k:=hy;rw[f0x,hy]; omega
   ·exact gP ⟨oo,trivial⟩
  ·have hI:s.length<=500+160*i:=hI;have hs78:=(l0j hb (show i<b.2.2.length by omega)).s78;unfold g0q;rw[e0L];show s.length+2*(a0t b.2.1 i).length<=_;omega
theorem a0Q{b:Y34}(hb:a0e b=true):(lV b).length<=6000:=by
 have df:=f0r (a0C hb).1;have h14:=df.fac.ni14;have h1:=h0v df b.2.1.1.length (Nat.le_refl _);have h2:=o0r (g0m b) (fun i=>a0t b.2.1 i) (f0W b) (n:=b.2.2.length) (c:=78) (fun i hi=>(l0j hb hi).s78) b.2.2.length (Nat.le_refl _);have h3:=(a0C hb).2.1;have h30:=df.fac.nn30;have h4:(f0W b).length=(fN (d0q b) b.2.1.1.length (0,[])).2.length:=rfl;unfold lV;omega
theorem s0h{b:Y34}{l:a0D}(h:l∈lV b):(∃i j t,i<b.2.1.1.length/\j < (b0H b i).2.2.2.1.length/\t < (b0o (a0d (b0H b i) j).1 (a0d (b0H b i) j).2.2.2.1).length/\l=s0W (b0J (a0c b.2.1) i:Int) (a0d (b0H b i) j) j t) ∨
  ∃i k t,i<b.2.2.length/\k < (a0t b.2.1 i).length/\t<2/\l=m0k (g0m b i) ((a0t b.2.1 i).getD k 0) k t:=by
 rcases l0k _ h with h | h
 ·exact .inl (i0T (fun _=>rfl) _ h)
 ·exact .inr h
theorem s0H(pl:Nat->a0p)(t:Int):∀m,0<m->l0G pl t m<m
 | 1,_=>by
   have e:l0G pl t 1=if((pl 0).2.2.1==t&&(pl 0).2.2.2)=true then((0:Nat):Int) else 0:=rfl
   rw[e];split <;> simp
 | m+2,_=>by
   have e:l0G pl t (m+2)=if((pl (m+1)).2.2.1==t&&(pl (m+1)).2.2.2)=true then((m+1:Nat):Int) else l0G pl t (m+1):=rfl
   have:=s0H pl t (m+1) (by omega);rw[e];split <;> omega
theorem p0M{b:Y34}(hb:a0e b=true){l:a0D}(h:l∈lV b):0<=l.1/\l.1<2*((a0Z b.2.1).length:Int)/\0<=l.2.1/\l.2.1<2*((a0Z b.2.1).length:Int):=by
 obtain⟨hd,hlen,_⟩:=a0C hb;have df:=f0r hd;rcases s0h h with ⟨i,j,t,hi,hj,ht,rfl⟩ | ⟨i,k,t,hi,hk,ht,rfl⟩
 ·obtain⟨x1,x2,x3⟩:=b0K df hi;obtain⟨c1,c2,c3,c4⟩:=c0x x2;obtain⟨a1,a2,a3,a4⟩:=c4 j hj;obtain⟨A,hA⟩:∃A:Nat,(a0d (b0H b i) j).2.1=(A:Int):=⟨(a0d (b0H b i) j).2.1.toNat,by omega⟩;obtain⟨B,hB⟩:∃B:Nat,(a0d (b0H b i) j).2.2.1=(B:Int):=⟨(a0d (b0H b i) j).2.2.1.toNat,by omega⟩;have hAn:A < (a0c b.2.1 i).2.2.length:=by omega
  have hBn:B < (a0c b.2.1 i).2.2.length:=by omega
  have lA:b0J (a0c b.2.1) i+A < (a0Z b.2.1).length:=by
   have:=j0F (a0c b.2.1) hi hAn;unfold a0Z;rw[c0R]; omega
  have lB:b0J (a0c b.2.1) i+B < (a0Z b.2.1).length:=by
   have:=j0F (a0c b.2.1) hi hBn;unfold a0Z;rw[c0R]; omega
  have tr:=(g0S _ _).2 _ (b0d (d:=(0,0)) ht);have e1:(s0W (b0J (a0c b.2.1) i:Int) (a0d (b0H b i) j) j t).1=2*((b0J (a0c b.2.1) i:Int)+(A:Int))+((b0o (a0d (b0H b i) j).1 (a0d (b0H b i) j).2.2.2.1).getD t (0,0)).1:=by
   rw[<- hA]; rfl
  have e2:(s0W (b0J (a0c b.2.1) i:Int) (a0d (b0H b i) j) j t).2.1=2*((b0J (a0c b.2.1) i:Int)+(B:Int))+((b0o (a0d (b0H b i) j).1 (a0d (b0H b i) j).2.2.2.1).getD t (0,0)).2:=by
   rw[<- hB]; rfl
  rw[e1,e2];omega
 ·obtain⟨q,h1,h2,h3,_⟩:=g0E (a0z b.2.1) i (a0Z b.2.1).length _ (b0d (d:=0) hk);have h1:(a0t b.2.1 i).getD k 0=(q:Int):=h1;have d1:=(m0T (a0z b.2.1) i (a0Z b.2.1).length).1;have d2:=s0H (a0z b.2.1) i (a0Z b.2.1).length (by omega);have e1:(m0k (g0m b i) ((a0t b.2.1 i).getD k 0) k t).1=2*l0G (a0z b.2.1) i (a0Z b.2.1).length+(t:Int):=rfl;have e2:(m0k (g0m b i) ((a0t b.2.1 i).getD k 0) k t).2.1=2*(q:Int)+(t:Int):=by
   rw[<- h1]; rfl
  rw[e1,e2];omega
section
variable (b:Y34)
def a0k:Nat:=2*(a0Z b.2.1).length
def frN(i:Nat):Nat:=((lV b).getD i (a0a y48)).1.toNat
def toN(i:Nat):Nat:=((lV b).getD i (a0a y48)).2.1.toNat
theorem h0C(hb:a0e b=true){i:Nat}(hi:i < (lV b).length):((lV b).getD i (a0a y48)).1=(frN b i:Int)/\((lV b).getD i (a0a y48)).2.1=(toN b i:Int)/\frN b i<a0k b/\toN b i<a0k b:=by
 obtain⟨h1,h2,h3,h4⟩:=p0M hb (b0d (d:=a0a y48) hi);unfold frN toN a0k;omega
theorem g0j(hb:a0e b=true):a0k b<=1000000:=by
 have hl:=(f0r (a0C hb).1).len;unfold a0k;omega
theorem E0s(hb:a0e b=true):c0M (a0o b)=some (a0k b:Int):=by
 have hl:=(f0r (a0C hb).1).len;have e:∀s:List c0q,u67 s=some (s.length:Int):=fun _=>rfl;unfold c0M;rw[e,vS,gP ⟨rfl,⟨by show _<=2*((a0Z b.2.1).length:Int); omega,by show 2*((a0Z b.2.1).length:Int)<=_; omega⟩,trivial⟩,lE];unfold a0k;rw[Int.natCast_mul];rfl
theorem r61(hw:wf y34 b)(hb:a0e b=true):u61 b=some (a0k b:Int):=by
 have df:=f0r (a0C hb).1;have hl:=df.len;unfold u61;rw[D0L b.2.1 hw.2.1 df.fac.ni14 df.fac.np8 df.pin,vS,gP ⟨rfl,⟨by show _<=2*((a0Z b.2.1).length:Int); omega,by show 2*((a0Z b.2.1).length:Int)<=_; omega⟩,trivial⟩,lE];unfold a0k;rw[Int.natCast_mul];rfl
end
def b0s(l:List Int)(x:Int):Bool:=(List.range l.length).any fun j=>l.getD j 0==x
theorem E0o(l:List Int)(x:Int)(hl:l.length<=9223372036854775807):g0R l x=some (b0s l x):=by
 have key:=b0f hl (fun j=>l.getD j 0==x) (some true) (e:=some false) (F:=x0v l x) (fun g i hi=>by
  have e3:((i:Int)).toNat=i:=rfl;refine(if_pos (decide_eq_true (by omega))).trans ((gP ⟨oo,trivial⟩).trans ?_);rw[e3];by_cases h:(l.getD i 0==x)=true
  ·rw[if_pos h,if_pos h]
  ·rw[if_neg h,if_neg h];exact gP ⟨oo,trivial⟩) (fun g=>if_neg (by simp))
 refine key.trans ?_;unfold b0s;cases(List.range l.length).any fun j=>l.getD j 0==x <;> rfl
def e0h(M:Nat)(br:List Int):List Bool:=fN (j0f fun k=>!b0s br (k:Int)) M []
theorem r62(ls:List Y48)(br:List Int)(h1:ls.length<=1048576)(h2:br.length<=1048576):u62 ls br=some (e0h ls.length br):=by
 refine(lF (n:=ls.length) (by omega) (fun i (s:List Bool)=>((i:Int),s)) (j0f fun k=>!b0s br (k:Int)) (fun i s=>s.length=i) (J:=fun s=>some s) (F:=B0p br ls) (fun g i s hi hs=>?_) (fun i s _ hs=>by show(s++[_]).length=_; simp[hs]) (fun g s _=>if_neg (by simp)) [] rfl).trans rfl;have e3:((i:Int)).toNat=i:=rfl;refine(if_pos (decide_eq_true (by omega))).trans ?_;rw[E0o br _ (by omega),vS];refine(gP ⟨rfl,⟨by simp only[List.length_singleton]; omega,by simp only[List.length_singleton]; omega⟩,trivial⟩).trans ?_;exact gP ⟨oo,trivial⟩
def s0Z(M:Nat)(br:List Int):Bool:=br.all (inB · 0 ((M:Int)-1))&&v0w br
theorem e0w{σ:Type}(g:σ->Nat->σ)(l:List Nat)(s:σ):fN (fun i s=>g s (l.getD i 0)) l.length s=l.foldl g s:=by
 have key:∀n,n<=l.length->fN (fun i s=>g s (l.getD i 0)) n s=(l.take n).foldl g s:=by
  intro n
  induction n with
  | zero=>intro _; rfl
  | succ n ih =>
    intro hn;have e:l.take (n+1)=l.take n++[l.getD n 0]:=by
     rw[List.take_add_one,gq,List.getElem?_eq_getElem (by omega)];rfl
    rw[e,List.foldl_append,<- ih (by omega)];rfl
 have:=key l.length (Nat.le_refl _)
 rwa [List.take_length] at this
theorem y0O(M:Nat):∀m,m<=M->(fN (fun i (s:List Bool)=>s.set i true) m (List.replicate M false)).length=M/\∀k,k<m->(fN (fun i (s:List Bool)=>s.set i true) m (List.replicate M false)).getD k false=true:=by
 intro m
 induction m with
 | zero=>exact fun _=>⟨List.length_replicate,fun k hk=>by omega⟩
 | succ m ih =>
   intro hm;obtain⟨h1,h2⟩:=ih (by omega);refine⟨by show(List.set _ _ _).length=M; rw[List.length_set,h1],fun k hk=>?_⟩;show(List.set _ _ _).getD k false=true;rw[b0z _ (by rw[h1]; omega)];by_cases e:k=m
   ·rw[if_pos e]
   ·rw[if_neg e]; exact h2 k (by omega)
theorem z0Q(br:List Int)(s:List Bool):∀m,(∀j,j<m->(br.getD j 0).toNat<s.length)->(fN (fun i (s:List Bool)=>s.set (br.getD i 0).toNat false) m s).length=s.length/\∀k,(fN (fun i (s:List Bool)=>s.set (br.getD i 0).toNat false) m s).getD k false=(s.getD k false&&!(List.range m).any fun j=>(br.getD j 0).toNat==k):=by
 intro m
 induction m with
 | zero=>exact fun _=>⟨rfl,fun k=>by show s.getD k false=_; simp⟩
 | succ m ih =>
   intro hm;obtain⟨h1,h2⟩:=ih (fun j hj=>hm j (by omega));refine⟨by show(List.set _ _ _).length=_; rw[List.length_set,h1],fun k=>?_⟩;show(List.set _ _ _).getD k false=_;rw[b0z _ (by rw[h1]; exact hm m (by omega)),h2,List.range_succ,List.any_append];by_cases e:k=(br.getD m 0).toNat
   ·have:((br.getD m 0).toNat==k)=true:=by rw[e]; exact beq_self_eq_true _
    rw[if_pos e];simp only[List.any_cons,List.any_nil,this,Bool.or_true,Bool.true_or,Bool.not_true,Bool.and_false]
   ·have:((br.getD m 0).toNat==k)=false:=beq_eq_false_iff_ne.2 (Ne.symm e);rw[if_neg e];simp only[List.any_cons,List.any_nil,this,Bool.or_false]
def c0O(p:Nat->Bool)(M:Nat):List Int:=((List.range M).filter p).map fun i:Nat=>(i:Int)
theorem b0v(p:Nat->Bool):∀m,fN (fun i (s:List Int)=>if p i=true then s++[(i:Int)] else s) m []=c0O p m
 | 0=>rfl
 | m+1=>by
   show(if p m=true then fN _ m []++[(m:Int)] else fN _ m [])=_;rw[b0v p m];unfold c0O;rw[List.range_succ,List.filter_append,List.map_append];by_cases h:p m=true
   ·rw[if_pos h]; simp[h]
   ·rw[if_neg h]; simp[h]
theorem c0j(p:Nat->Bool)(M:Nat):(c0O p M).length<=M/\(c0O p M).length=((List.range M).filter p).length:=by
 unfold c0O;rw[List.length_map];have:=List.length_filter_le p (List.range M);rw[List.length_range] at this;exact⟨this,rfl⟩
theorem j0U(p:Nat->Bool)(M i:Nat):(c0O p M).getD i 0=((((List.range M).filter p).getD i 0:Nat):Int):=by
 unfold c0O;rw[gq,gq,List.getElem?_map];cases((List.range M).filter p)[i]? <;> rfl
theorem h0E{p:Nat->Bool}{M i:Nat}(h:i < ((List.range M).filter p).length):((List.range M).filter p).getD i 0<M:=by
 have:=b0d (d:=0) h;rw[List.mem_filter,List.mem_range] at this;exact this.1
def k0Z(o:Option (List Nat)):List Int×Bool:=match o with
 | none=>([],false)
 | some l=>(l.map (fun v:Nat=>(v:Int)),true)
section
variable {b:Y34}
theorem H0u(hb:a0e b=true){br:List Int}(hbr:s0Z (lV b).length br=true)(hl:br.length<=1048576):B0U (a0o b) br=some (a0o b,e0h (lV b).length br):=by
 have hM:=a0Q hb;have hbr:=hbr;unfold s0Z at hbr;rw[ba] at hbr;have hin:∀j,j<br.length->0<=br.getD j 0/\br.getD j 0 < ((lV b).length:Int):=fun j hj=>by
  have:=a0s.1 (e0f hbr.1 hj);omega
 obtain⟨t1,t2⟩:=y0O (lV b).length (lV b).length (Nat.le_refl _);obtain⟨f1,f2⟩:=z0Q br (fN (fun i (s:List Bool)=>s.set i true) (lV b).length (List.replicate (lV b).length false)) br.length (fun j hj=>by
  have:=hin j hj;omega)
 have hres:fN (fun i (s:List Bool)=>s.set (br.getD i 0).toNat false) br.length (fN (fun i (s:List Bool)=>s.set i true) (lV b).length (List.replicate (lV b).length false))=e0h (lV b).length br:=by
  refine d0H false (by rw[f1,t1]; exact(e0e _ _).symm) (fun k hk=>?_);have hk:k < (lV b).length:=by rw[f1,t1] at hk; exact hk
  rw[f2,t2 k hk,Bool.true_and];refine Eq.trans ?_ (f0s (fun k=>!b0s br (k:Int)) false _ k hk).symm;congr 1;unfold b0s;rw[Bool.eq_iff_iff,List.any_eq_true,List.any_eq_true];constructor
  ·rintro⟨j,hj,he⟩;have:=hin j (List.mem_range.1 hj);have he:=eq_of_beq he;exact⟨j,hj,by rw[beq_iff_eq]; omega⟩
  ·rintro⟨j,hj,he⟩;have:=hin j (List.mem_range.1 hj);have he:=eq_of_beq he;exact⟨j,hj,by rw[beq_iff_eq]; omega⟩
 unfold B0U;have eM:((a0o b).2.2.1.length:Int)=((lV b).length:Int):=rfl;rw[eM,Int.toNat_natCast];refine(gP ⟨⟨by omega,rfl,by omega,by omega⟩,trivial⟩).trans ?_;rw[lE,List.length_replicate];refine(lF (n:=(lV b).length) (by omega) (fun i (s:List Bool)=>((i:Int),s)) (fun i s=>s.set i true) (fun _ s=>s.length=(lV b).length) (J:=fun s=>k0E br (a0o b) s) (F:=x0H br (a0o b) ((lV b).length:Int)) (fun g i s hi hs=>?_) (fun i s _ hs=>by rw[List.length_set]; exact hs) (fun g s _=>if_neg (by simp)) (List.replicate (lV b).length false) List.length_replicate).trans ?_
 ·have e3:((i:Int)).toNat=i:=rfl;refine(if_pos (decide_eq_true (by omega))).trans ?_;refine(gP ⟨oo,by omega,trivial⟩).trans ?_;exact gP ⟨oo,trivial⟩
 ·show k0E br (a0o b) _=_;rw[k0E];refine(lF (n:=br.length) (by omega) (fun i (s:List Bool)=>((i:Int),s)) (fun i s=>s.set (br.getD i 0).toNat false) (fun _ s=>s.length=(lV b).length) (J:=fun s=>some (a0o b,s)) (F:=x0G br (a0o b)) (fun g i s hi hs=>?_) (fun i s _ hs=>by rw[List.length_set]; exact hs) (fun g s _=>if_neg (by simp)) _ t1).trans ?_
  ·have e3:((i:Int)).toNat=i:=rfl;have:=hin i hi;refine(if_pos (decide_eq_true (by omega))).trans ?_;refine(gP ⟨oo,trivial⟩).trans ?_;rw[e3];refine(gP ⟨oo,by omega,trivial⟩).trans ?_;exact gP ⟨oo,trivial⟩
  ·exact congrArg (fun x=>some (a0o b,x)) hres
theorem E0q(hb:a0e b=true){lv:List Bool}(hlv:lv.length=(lV b).length):g0D (a0o b,lv)=some (c0O (fun i=>lv.getD i false) (lV b).length):=by
 have hM:=a0Q hb;refine(lF (n:=(lV b).length) (by omega) (fun i (s:List Int)=>(s,(i:Int))) (fun i s=>if lv.getD i false=true then s++[(i:Int)] else s) (fun i s=>s.length<=i) (J:=fun s=>some s) (F:=i0I (a0o b,lv)) (fun g i s hi hs=>?_) (fun i s _ hs=>?_) (fun g s _=>if_neg (by simp[a0o])) [] (Nat.le_refl _)).trans (congrArg some (b0v _ _))
 ·have e3:((i:Int)).toNat=i:=rfl;have hx:ix (i:Int) (a0o b).2.2.1.length:=⟨by omega,by show(i:Int) < ((lV b).length:Int); omega⟩;refine(if_pos (decide_eq_true hx.2)).trans ((gP ⟨hx,trivial⟩).trans ?_);rw[lE];refine(gP ⟨⟨by omega,by show(i:Int) < (lv.length:Int); omega⟩,(fun _=>rfl),trivial⟩).trans ?_;show(if(lv.getD i false&&true)=true then _ else _)=_;rw[Bool.and_true];by_cases h:lv.getD i false=true
  ·rw[if_pos h,if_pos h];refine(gP ⟨⟨by simp only[List.length_singleton]; omega,by simp only[List.length_singleton]; omega⟩,trivial⟩).trans ?_;exact gP ⟨oo,trivial⟩
  ·rw[if_neg h,if_neg h];exact gP ⟨oo,trivial⟩
 ·show(if lv.getD i false=true then s++[(i:Int)] else s).length<=i+1;split
  ·rw[List.length_append,List.length_singleton]; omega
  ·omega
theorem E0r(hb:a0e b=true){lv:List Bool}(hlv:lv.length=(lV b).length)(a:Nat):g0C (a0o b,lv) (a:Int)=some (c0O (fun i=>lv.getD i false&&frN b i==a) (lV b).length):=by
 have hM:=a0Q hb;refine(lF (n:=(lV b).length) (by omega) (fun i (s:List Int)=>(s,(i:Int))) (fun i s=>if(lv.getD i false&&frN b i==a)=true then s++[(i:Int)] else s) (fun i s=>s.length<=i) (J:=fun s=>some s) (F:=i0G (a0o b,lv) (a:Int)) (fun g i s hi hs=>?_) (fun i s _ hs=>?_) (fun g s _=>if_neg (by simp[a0o])) [] (Nat.le_refl _)).trans (congrArg some (b0v _ _))
 ·have e3:((i:Int)).toNat=i:=rfl;have hx:ix (i:Int) (a0o b).2.2.1.length:=⟨by omega,by show(i:Int) < ((lV b).length:Int); omega⟩;refine(if_pos (decide_eq_true hx.2)).trans ((gP ⟨hx,trivial⟩).trans ?_);rw[lE];refine(gP ⟨⟨by omega,by show(i:Int) < (lv.length:Int); omega⟩,(fun _=>rfl),trivial⟩).trans ?_;obtain⟨f1,_⟩:=h0C b hb hi;have ef:(((lV b).getD i (a0a y48)).1==(a:Int))=(frN b i==a):=by
   rw[f1,Bool.eq_iff_iff,beq_iff_eq,beq_iff_eq]; omega
  show(if(lv.getD i false&&(((lV b).getD i (a0a y48)).1==(a:Int)))=true then _ else _)=_;rw[ef];by_cases h:(lv.getD i false&&frN b i==a)=true
  ·rw[if_pos h,if_pos h];refine(gP ⟨⟨by simp only[List.length_singleton]; omega,by simp only[List.length_singleton]; omega⟩,trivial⟩).trans ?_;exact gP ⟨oo,trivial⟩
  ·rw[if_neg h,if_neg h];exact gP ⟨oo,trivial⟩
 ·show(if(lv.getD i false&&frN b i==a)=true then s++[(i:Int)] else s).length<=i+1;split
  ·rw[List.length_append,List.length_singleton]; omega
  ·omega
theorem r73(hb:a0e b=true){lv:List Bool}(hlv:lv.length=(lV b).length)(a:Nat):u73 (a0o b,lv) (a:Int)=some (c0O (fun i=>lv.getD i false&&frN b i==a) (lV b).length):=by
 unfold u73;rw[E0r hb hlv,vS,gP ⟨rfl,trivial⟩,lE]
theorem H0t(o:List Int)(h:o.length<=9223372036854775807):D0D o 0=some (match(List.range o.length).find? (fun v=>(0:Int)==o.getD v 0) with | some v=>(v:Int) | none => -1):=by
 have key:=l0n h (fun v=>(0:Int)==o.getD v 0) (fun v=>some (v:Int)) (e:=some (-1)) (F:=x0E 0 o) 0 (Nat.zero_le _) (fun g i _ hi=>by
  have e3:((i:Int)).toNat=i:=rfl;refine(if_pos (decide_eq_true (by omega))).trans ((gP ⟨oo,trivial⟩).trans ?_);rw[e3];by_cases hc:((0:Int)==o.getD i 0)=true
  ·rw[if_pos hc,if_pos hc]
  ·rw[if_neg hc,if_neg hc];exact gP ⟨oo,trivial⟩) (fun g=>if_neg (by simp))
 rw[Nat.sub_zero,<- List.range_eq_range'] at key;refine Eq.trans key ?_;cases(List.range o.length).find? fun v=>(0:Int)==o.getD v 0 <;> rfl
end
end Go.Proofs.YtphnknndgfgepaaGreatDoor
end
