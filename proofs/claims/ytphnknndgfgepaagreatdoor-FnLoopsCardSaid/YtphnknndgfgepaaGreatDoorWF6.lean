/- What the links of a block are: where they lead. Plain facts. -/
import Derived.Test.YtphnknndgfgepaaGreatDoorWC6
import Derived.Test.YtphnknndgfgepaaGreatDoorWE6
import Derived.Test.YtphnknndgfgepaaGreatDoorF76d
import Derived.Test.YtphnknndgfgepaaGreatDoorWB6
section
namespace Go.Proofs.Xd
open Go Go.Proofs Go.Proofs.Xl
def Sw(f:Int)(a:H4)(j:Nat)(t:Nat):x7:=(2*(f+a.2.1)+((K5 a.1 a.2.2.2.1).getD t (0,0)).1,2*(f+a.2.2.1)+((K5 a.1 a.2.2.2.1).getD t (0,0)).2,1,(j:Int))
def Kz(d s:Int)(k t:Nat):x7:=(2*d+(t:Int),2*s+(t:Int),2,(k:Int))
theorem Lb{f a b x:Int}{tr:List (Int×Int)}{s:List x7}{l:x7}:∀k,l∈fN (P6 f a b x tr) k s->l∈s∨∃t,t<k/\l=(2*(f+a)+(tr.getD t (0,0)).1,2*(f+b)+(tr.getD t (0,0)).2,1,x)
 | 0,h=>.inl h
 | k+1,h=>by
   rcases List.mem_append.1 (show l∈fN (P6 f a b x tr) k s++[_] from h) with h | h
   ·rcases Lb k h with h | ⟨t,ht,e⟩
    ·exact .inl h
    ·exact .inr ⟨t,by omega,e⟩
   ·exact .inr ⟨k,by omega,List.mem_singleton.1 h⟩
theorem Mb{f:Int}{arcs:Nat->H4}{s:List x7}{l:x7}:∀m,l∈fN (O5 f arcs) m s->l∈s∨∃j t,j<m/\t < (K5 (arcs j).1 (arcs j).2.2.2.1).length/\l=Sw f (arcs j) j t
 | 0,h=>.inl h
 | m+1,h=>by
   rcases Lb _ (show l∈fN (P6 f _ _ (m:Int) _) _ (fN (O5 f arcs) m s) from h) with h | ⟨t,ht,e⟩
   ·rcases Mb m h with h | ⟨j,t,hj,ht,e⟩
    ·exact .inl h
    ·exact .inr ⟨j,t,by omega,ht,e⟩
   ·exact .inr ⟨m,t,by omega,ht,e⟩
theorem Ly{nets:Nat->Nat}{arcs:Nat->Nat->H4}{ms:Nat->Nat}{x:Nat->C9}(hx:∀i,nets i=(x i).2.2.length):∀m,(fN (R9 nets arcs ms) m (0,[])).1=(A3 x m:Int)
 | 0=>rfl
 | m+1=>by
   show(fN (R9 nets arcs ms) m (0,[])).1+(nets m:Int)=((A3 x m+(x m).2.2.length:Nat):Int);rw[Ly hx m,hx m]; omega
theorem Nb{nets:Nat->Nat}{arcs:Nat->Nat->H4}{ms:Nat->Nat}{x:Nat->C9}(hx:∀i,nets i=(x i).2.2.length){l:x7}:∀m,l∈(fN (R9 nets arcs ms) m (0,[])).2->∃i j t,i<m/\j<ms i/\t < (K5 (arcs i j).1 (arcs i j).2.2.2.1).length/\l=Sw (A3 x i:Int) (arcs i j) j t
 | 0,h=>by cases h
 | m+1,h=>by
   rcases List.mem_append.1 (show l∈(fN (R9 nets arcs ms) m (0,[])).2++Y3 _ _ _ from h) with h | h
   ·obtain⟨i,j,t,hi,hr⟩:=Nb hx m h;exact⟨i,j,t,by omega,hr⟩
   ·rcases Mb _ h with h | ⟨j,t,hj,ht,e⟩
    ·cases h
    ·rw[Ly hx m] at e;exact⟨m,j,t,by omega,hj,ht,e⟩
theorem Pb{d:Int}{sn:List Int}{z:List x7}{l:x7}:∀k,l∈fN (Gq d sn) k z->l∈z∨∃j t,j<k/\t<2/\l=Kz d (sn.getD j 0) j t
 | 0,h=>.inl h
 | k+1,h=>by
   have h:l∈(fN (Gq d sn) k z++[Kz d (sn.getD k 0) k 0])++[Kz d (sn.getD k 0) k 1]:=h;rcases List.mem_append.1 h with h | h
   ·rcases List.mem_append.1 h with h | h
    ·rcases Pb k h with h | ⟨j,t,hj,ht,e⟩
     ·exact .inl h
     ·exact .inr ⟨j,t,by omega,ht,e⟩
    ·exact .inr ⟨k,0,by omega,by omega,List.mem_singleton.1 h⟩
   ·exact .inr ⟨k,1,by omega,by omega,List.mem_singleton.1 h⟩
theorem Qb{d:Nat->Int}{sn:Nat->List Int}{z:List x7}{l:x7}:∀m,l∈fN (Hq d sn) m z->l∈z∨∃i j t,i<m/\j < (sn i).length/\t<2/\l=Kz (d i) ((sn i).getD j 0) j t
 | 0,h=>.inl h
 | m+1,h=>by
   rcases Pb _ (show l∈fN (Gq (d m) (sn m)) _ (fN (Hq d sn) m z) from h) with h | ⟨j,t,hj,ht,e⟩
   ·rcases Qb m h with h | ⟨i,j,t,hi,hr⟩
    ·exact .inl h
    ·exact .inr ⟨i,j,t,by omega,hr⟩
   ·exact .inr ⟨m,j,t,by omega,hj,ht,e⟩
theorem My(f a b x:Int)(tr:List (Int×Int))(s:List x7):∀k,fN (P6 f a b x tr) k s=s++fN (P6 f a b x tr) k []
 | 0=>(List.append_nil _).symm
 | k+1=>by
   show fN (P6 f a b x tr) k s++[_]=s++(fN (P6 f a b x tr) k []++[_]);rw[My f a b x tr s k,List.append_assoc]
theorem Rb(f:Int)(arcs:Nat->H4)(s:List x7):∀m,fN (O5 f arcs) m s=s++Y3 f arcs m
 | 0=>(List.append_nil _).symm
 | m+1=>by
   show O5 f arcs m (fN (O5 f arcs) m s)=s++O5 f arcs m (Y3 f arcs m);rw[Rb f arcs s m];unfold O5;rw[My,My _ _ _ _ _ (Y3 f arcs m),List.append_assoc]
end Go.Proofs.Xd
end
section
namespace Go.Proofs.YtphnknndgfgepaaGreatDoor
open Go Go.Proofs Go.Proofs.Sv Go.Proofs.Xv Go.Proofs.Xl Go.Proofs.Xd
theorem Ny(l:List x7)(f t a b k i:Int)(hf:0<=f/\f<=1000)(ht:0<=t/\t<=1000)(ha:0<=a/\a<=1)(hb:0<=b/\b<=1)(hl:l.length<=100000):x0r l f t a b k i=some (l++[(2*f+a,2*t+b,k,i)]) :=
 gP ⟨oo,oo,oo,oo,⟨by show l.length+1<=_; omega,by show(l.length+1)*32<=_; omega⟩,trivial⟩
def Sb(k s:Int)(x y:Nat):Bool:=if(k==1)=true then s==3||(s==1)==((x:Int)==(y:Int)) else if(k==2)=true then(x:Int)==0 else if(k==3)=true then(x:Int)==1 else false
def Nq(k s f t i:Int)(x y:Nat)(l:List x7):List x7:=if Sb k s x y=true then l++[(2*f+(x:Int),2*t+(y:Int),1,i)] else l
theorem Tb(k s f t i:Int)(x y:Nat)(l:List x7):(Nq k s f t i x y l).length<=l.length+1:=by
 unfold Nq;split
 ·rw[List.length_append]; exact Nat.le_refl _
 ·omega
theorem Ub(k s f t i:Int)(x:Nat)(l:List x7):∀n,(fN (Nq k s f t i x) n l).length<=l.length+n
 | 0=>Nat.le_refl _
 | n+1=>by
   have h:=Ub k s f t i x l n;have:=Tb k s f t i x n (fN (Nq k s f t i x) n l);show(Nq k s f t i x n (fN (Nq k s f t i x) n l)).length<=_;omega
theorem H0y(a:A5)(l:List x7)(f t i:Int)(hf:0<=f/\f<=1000)(ht:0<=t/\t<=1000)(hl:l.length<=90000):y0G l a f t i=some (fN (fun x s=>fN (Nq a.1 a.2.2.2.1 f t i x) 2 s) 2 l):=by
 unfold y0G;refine lF (n:=2) (by decide) (fun(x:Nat) (s:List x7)=>((x:Int),s)) (fun x s=>fN (Nq a.1 a.2.2.2.1 f t i x) 2 s) (fun x s=>s.length<=l.length+2*x) (J:=fun s=>some s) (F:=n0z f t i a) (fun g x s hx hI=>?_) (fun x s hx hI=>?_) (fun g s _=>by
  show n0z f t i a g (((2:Nat):Int),s)=_;rw[n0z];exact if_neg (by decide)) l (Nat.le_refl _)
 ·have hI:s.length<=l.length+2*x:=hI;refine(if_pos (decide_eq_true (by omega))).trans ?_;refine(lF (n:=2) (by decide) (fun(y:Nat) (s:List x7)=>((y:Int),s)) (Nq a.1 a.2.2.2.1 f t i x) (fun y s=>s.length<=l.length+2*x+y) (J:=fun s=>r0a (x:Int) g s) (F:=n0y f t (x:Int) i a g) (fun g' y s hy hI=>?_) (fun y s hy hI=>?_) (fun g' s _=>by
   show n0y f t (x:Int) i a g g' (((2:Nat):Int),s)=_;rw[n0y];exact if_neg (by decide)) s hI).trans ?_
  ·have hI:s.length<=l.length+2*x+y:=hI;have j4:∀v,n0A (y:Int) g' v=g' (((y+1:Nat):Int),v):=fun v=>gP ⟨oo,trivial⟩;have j5:∀v,f0Z (y:Int) s f t (x:Int) i g' v=g' (((y+1:Nat):Int),if v=true then s++[(2*f+(x:Int),2*t+(y:Int),1,i)] else s):=fun v=>by
    cases v with
    | true=>rw[f0Z,if_pos rfl,if_pos rfl,Ny s f t x y 1 i hf ht (by omega) (by omega) (by omega),gP ⟨rfl,trivial⟩,vS,lE,j4]
    | false=>rw[f0Z,if_neg (by simp),if_neg (by simp),j4]
   refine(if_pos (decide_eq_true (by omega))).trans ?_;show _=g' (((y+1:Nat):Int),Nq a.1 a.2.2.2.1 f t i x y s);unfold Nq Sb;rw[j5,j5,j5,j5];by_cases h1:(a.1==1)=true
   ·rw[if_pos h1,if_pos h1]
   rw[if_neg h1,if_neg h1];by_cases h2:(a.1==2)=true
   ·rw[if_pos h2,if_pos h2]
   rw[if_neg h2,if_neg h2];by_cases h3:(a.1==3)=true
   ·rw[if_pos h3,if_pos h3]
   rw[if_neg h3,if_neg h3]
  ·have hI:s.length<=l.length+2*x+y:=hI;have:=Tb a.1 a.2.2.2.1 f t i x y s;omega
  ·exact gP ⟨oo,trivial⟩
 ·have hI:s.length<=l.length+2*x:=hI;have:=Ub a.1 a.2.2.2.1 f t i x s 2;omega
theorem Bk{k s:Int}(h:(k=1/\(s=1∨s=2∨s=3))∨k=2∨k=3)(fo A B i:Int)(l:List x7):fN (fun x z=>fN (Nq k s (fo+A) (fo+B) i x) 2 z) 2 l=fN (P6 fo A B i (K5 k s)) (K5 k s).length l:=by
 rcases h with ⟨rfl,rfl | rfl | rfl⟩ | rfl | rfl <;> rfl
theorem Nv{b:Nat->Bool}{n m:Nat}(hm:m<n)(h1:b m=true)(h2:∀j,j<m->b j=false):(List.range n).find? b=some m:=by
 rw[List.find?_range_eq_some];refine⟨h1,List.mem_range.2 hm,fun j hj=>?_⟩;rw[h2 j hj]; rfl
theorem H0x(d:Y31)(hd:wf y31 d){l:List m4}(df:DF l d){i k:Nat}(hi:i<d.1.length)(hk:k < (m6 d i).2.2.length):U2 d (i:Int) (k:Int)=some ((A3 (m6 d) i+k:Nat):Int)/\A3 (m6 d) i+k < (r6 d).length:=by
 have hl:=df.len;have hlt:A3 (m6 d) i+k < (r6 d).length:=by
  have:=Dv (m6 d) hi hk;unfold r6;rw[Lw]; omega
 refine⟨?_,hlt⟩;unfold U2;rw[Kv d hd df.fac.ni14 df.fac.np8 df.pin,vS,gP ⟨rfl,trivial⟩,lE];have ho:∀j,j < (r6 d).length->((x5 d j).1==(i:Int)&&(x5 d j).2.1==(k:Int))=decide (j=A3 (m6 d) i+k):=fun j hj=>p0s d.1.length d.2.2.length (m6 d) (A4 d) (d6 y105) hi hk hj;have key:=b0V (n:=(r6 d).length) (by omega) (fun j=>(x5 d j).1==(i:Int)&&(x5 d j).2.1==(k:Int)) (F:=x0u (r6 d) (i:Int) (k:Int)) (fun g j hj=>by
  have e3:((j:Int)).toNat=j:=rfl;refine(if_pos (by simpa using hj)).trans ?_;rw[e3,gP ⟨oo,hj,(fun _=>oo),(fun _=>hj),trivial⟩,gP ⟨oo,trivial⟩]) (fun g=>aE)
 refine key.trans ?_;rw[Nv hlt (by rw[ho _ hlt,decide_eq_true rfl]) (fun j hj=>by rw[ho j (by omega)]; exact decide_eq_false (by omega))]
theorem z0C{b:Y34}(hb:A7 b=true){t:Nat}(ht:t<b.2.2.length):P8 (U5 (x5 b.2.1) t) (r6 b.2.1).length=1:=by
 obtain⟨hd,hlen,_⟩:=Tq hb;have df:=Kq hd;have hD:Gx _ _ _ _ _ _ _ _ _=true:=hd;unfold Gx at hD;rw[ba] at hD;have hx:∀i,i<b.2.1.1.length->1<=(m6 b.2.1 i).2.2.length/\inB ((m6 b.2.1 i).2.2.getD ((m6 b.2.1 i).2.2.length-1) 0) 0 ((b.2.1.2.1.length:Int)-1)=true:=fun i hi=>by
  have h1:=(df.pin i hi).1;exact⟨h1,df.fac.net.1 i hi _ (by omega)⟩
 obtain⟨p1,p2⟩:=Rm (d:=d6 y105) hx (fun i hi=>df.fac.net.2 i hi) b.2.1.2.2.length (Nat.le_refl _);have hall:=Aj (p:=fun x=>x==1) hD.2 (i:=t) (by
  unfold Tx;rw[p1]; omega)
 have h1:(Tx b.2.1.1.length b.2.1.2.2.length b.2.1.2.1.length (m6 b.2.1) (A4 b.2.1)).getD t 0=1:=beq_iff_eq.1 hall;have h2:=p2 t (by omega);unfold Tx at h1;rw[h1] at h2;have h3:(r6 b.2.1).length=A3 (m6 b.2.1) b.2.1.1.length+b.2.1.2.2.length:=Lw _ _ _ _;rw[h3];exact Int.ofNat.inj h2.symm
theorem H0w(b:Y34)(hw:wf y34 b)(hb:A7 b=true){t:Nat}(ht:t<b.2.2.length):B0P b.2.1 (t:Int)=some (J1 b t)/\0<=J1 b t/\(J1 b t).toNat < (r6 b.2.1).length:=by
 have df:=Kq (Tq hb).1;have hl:=df.len;obtain⟨i,h1,h2,h3,h4⟩:=z0B (z0C hb ht);have hv:J1 b t=(i:Int):=h4;refine⟨?_,by omega,by omega⟩;unfold B0P;rw[Kv b.2.1 hw.2.1 df.fac.ni14 df.fac.np8 df.pin,vS,gP ⟨rfl,trivial⟩,lE];have key:=b0V (n:=(r6 b.2.1).length) (by omega) (U5 (x5 b.2.1) t) (F:=x0s (r6 b.2.1) (t:Int)) (fun g j hj=>by
  have e3:((j:Int)).toNat=j:=rfl;refine(if_pos (by simpa using hj)).trans ?_;rw[e3,gP ⟨oo,hj,(fun _=>oo),(fun _=>hj),trivial⟩,gP ⟨oo,trivial⟩];rfl) (fun g=>aE)
 refine key.trans ?_;rw[Nv h1 h2 (fun j hj=>by rw[h3 j (by omega)]; exact decide_eq_false (by omega)),hv]
theorem s0X{c:m4}(h:Jq D3 c=true){j:Nat}(hj:j<c.2.2.2.1.length):D3 c.2.2.1.length (q9 c) (m5 c j)=true:=by
 have h:O4 D3 _ _ _ _ _ _ _ _ _=true:=h;unfold O4 Az at h;simp only[ba,dq] at h;have:=V9.1 h.1.1.1.2.2 j hj;rw[Bool.or_eq_false_iff,Bool.not_eq_false'] at this;exact this.1
theorem v0F{n:Nat}{p:Nat->L6}{a:H4}(h:D3 n p a=true)(hk:a.1<=3):((a.1=1/\(a.2.2.2.1=1∨a.2.2.2.1=2∨a.2.2.2.1=3))∨a.1=2∨a.1=3)/\I4 a.2.2.2.2.1 true=true/\I4 a.2.2.2.2.2 true=true:=by
 unfold D3 at h;simp only[ba] at h;obtain⟨_,h⟩:=h;by_cases h1:a.1=1
 ·rw[if_pos h1] at h;simp only[ba] at h;have:=D1.1 h.1.1.2;exact⟨.inl ⟨h1,by omega⟩,h.1.2,h.2⟩
 rw[if_neg h1] at h;by_cases h2:a.1=2∨a.1=3
 ·rw[if_pos h2] at h;simp only[ba] at h;exact⟨.inr h2,h.1.2,h.2⟩
 rw[if_neg h2] at h;by_cases h3:a.1=4∨a.1=5
 ·omega
 ·rw[if_neg h3] at h; cases h
theorem p0i{k s:Int}(h:3<k):K5 k s=[]:=by
 unfold K5;rw[if_neg (by rw[beq_iff_eq]; omega),if_neg (by rw[beq_iff_eq]; omega),if_pos (by rw[bne_iff_ne]; omega)]
def Lz(b:Y34)(i:Nat)(s:List x7):List x7:=s++Y3 (A3 (m6 b.2.1) i) (m5 (y6 b i)) (y6 b i).2.2.2.1.length
theorem Py(b:Y34):∀n,fN (Lz b) n []=(fN (Mq b) n (0,[])).2
 | 0=>rfl
 | n+1=>by
   show Lz b n (fN (Lz b) n [])=(fN (Mq b) n (0,[])).2++Y3 (fN (Mq b) n (0,[])).1 (m5 (y6 b n)) (y6 b n).2.2.2.1.length;have h1:(fN (Mq b) n (0,[])).1=(A3 (m6 b.2.1) n:Int):=Ly (fun _=>rfl) n;rw[Py b n,h1]; rfl
theorem p0j{b:Y34}(df:DF b.1 b.2.1){t:Int}{k:Nat}(hk:k < (A9 b.2.1 t).length):0<=(A9 b.2.1 t).getD k 0/\(A9 b.2.1 t).getD k 0<=1000:=by
 have:=Lv hk;have:=df.len;omega
theorem r59(b:Y34)(hw:wf y34 b)(hb:A7 b=true):u59 b=some (lV b):=by
 obtain⟨hd0,hlen,hwire⟩:=Tq hb;have df:=Kq hd0;have hd:=hw.2.1;have h14:=df.fac.ni14;have h30:=df.fac.nn30;have hpl:=df.len;unfold u59;refine(lF (n:=b.2.1.1.length) (by omega) (fun(i:Nat) (s:List x7)=>((i:Int),s)) (Lz b) (fun i s=>s.length<=32*i) (J:=t0D b) (F:=B0p b) (fun g i s hi hI=>?_) (fun i s hi hI=>?_) (fun g s _=>aE) [] (Nat.le_refl _)).trans ?_
 ·have hI:s.length<=32*i:=hI;have e3:((i:Int)).toNat=i:=rfl;obtain⟨x1,x2,x3⟩:=Gz df hi;obtain⟨c1,c2,c3,c4⟩:=Hz x2;have hfind:=fun k hk=>H0x b.2.1 hd df (i:=i) (k:=k) hi hk;refine(if_pos (by simpa using hi)).trans ?_;rw[e3,gP ⟨oo,x1,trivial⟩,lE];refine(lF (n:=(y6 b i).2.2.2.1.length) (by omega) (fun(j:Nat) (z:List x7)=>((j:Int),z)) (O5 (A3 (m6 b.2.1) i) (m5 (y6 b i))) (fun j z=>z.length<=s.length+4*j) (J:=y0y (i:Int) g) (F:=B0o (y6 b i) b (i:Int) g) (fun g' j z hj hz=>?_) (fun j z hj hz=>?_) (fun g' z _=>aE) s (Nat.le_refl _)).trans ?_
  ·have hz:z.length<=s.length+4*j:=hz;have e4:((j:Int)).toNat=j:=rfl;obtain⟨a1,a2,a3,a4⟩:=c4 j hj;have ha:=s0X x2 hj;have j4:∀v,q0u (j:Int) g' v=g' (((j+1:Nat):Int),v):=fun v=>gP ⟨oo,trivial⟩;refine(if_pos (by simpa using hj)).trans ?_;rw[e4,gP ⟨oo,trivial⟩];show(if decide ((m5 (y6 b i) j).1<=3)=true then _ else _)=g' (((j+1:Nat):Int),O5 (A3 (m6 b.2.1) i) (m5 (y6 b i)) j z);by_cases hk:(m5 (y6 b i) j).1<=3
   ·refine(if_pos (decide_eq_true hk)).trans ?_;obtain⟨k1,k2,k3⟩:=v0F ha hk;obtain⟨A,hA⟩:∃A:Nat,(m5 (y6 b i) j).2.1=(A:Int):=⟨(m5 (y6 b i) j).2.1.toNat,by omega⟩;obtain⟨B,hB⟩:∃B:Nat,(m5 (y6 b i) j).2.2.1=(B:Int):=⟨(m5 (y6 b i) j).2.2.1.toNat,by omega⟩;obtain⟨fA,lA⟩:=hfind A (by omega);obtain⟨fB,lB⟩:=hfind B (by omega);have hs:=H0y (m5 (y6 b i) j) z ((A3 (m6 b.2.1) i+A:Nat):Int) ((A3 (m6 b.2.1) i+B:Nat):Int) (j:Int) (by omega) (by omega) (by omega);have ee:=Bk k1 (A3 (m6 b.2.1) i:Int) (A:Int) (B:Int) (j:Int) z;rw[<- Int.natCast_add,<- Int.natCast_add] at ee;rw[ee] at hs;show gd (ix (j:Int) (y6 b i).2.2.2.1.length/\ix (j:Int) (y6 b i).2.2.2.1.length/\(U2 b.2.1 (i:Int) (m5 (y6 b i) j).2.1).isSome=true/\ix (j:Int) (y6 b i).2.2.2.1.length/\(U2 b.2.1 (i:Int) (m5 (y6 b i) j).2.2.1).isSome=true/\(y0G z (m5 (y6 b i) j) (vl (U2 b.2.1 (i:Int) (m5 (y6 b i) j).2.1)) (vl (U2 b.2.1 (i:Int) (m5 (y6 b i) j).2.2.1)) (j:Int)).isSome=true/\True) (lt (vl (y0G z (m5 (y6 b i) j) (vl (U2 b.2.1 (i:Int) (m5 (y6 b i) j).2.1)) (vl (U2 b.2.1 (i:Int) (m5 (y6 b i) j).2.2.1)) (j:Int))) fun v=>q0u (j:Int) g' v)=_;rw[hA,hB,fA,fB,vS,vS,hs,vS,gP ⟨oo,oo,rfl,oo,rfl,rfl,trivial⟩,lE,j4];unfold O5;rw[hA,hB]
   ·refine(if_neg (by simpa using hk)).trans ?_;rw[j4];unfold O5;rw[p0i (by omega)];rfl
  ·have hz:z.length<=s.length+4*j:=hz;have:=Nk (A3 (m6 b.2.1) i) (m5 (y6 b i)) j z;omega
  ·rw[Rb];exact gP ⟨oo,trivial⟩
 ·have hI:s.length<=32*i:=hI;obtain⟨x1,x2,x3⟩:=Gz df hi;have c3:=(Hz x2).2.2.1;have:=Gw (A3 (m6 b.2.1) i) (m5 (y6 b i)) (y6 b i).2.2.2.1.length;unfold Lz;rw[List.length_append];omega
 ·have hcl:(fN (Lz b) b.2.1.1.length []).length<=500:=by
   have:=Ky df b.2.1.1.length (Nat.le_refl _);rw[Py];omega
  have hcv:fN (Lz b) b.2.1.1.length []=Jj b:=Py b _;unfold lV;rw[hcv] at hcl ⊢;generalize Jj b=z at hcl ⊢;unfold t0D;rw[hlen];refine lF (n:=b.2.1.2.1.length) (by omega) (fun(i:Nat) (s:List x7)=>((i:Int),s)) (Hq (J1 b) (fun i=>A9 b.2.1 i)) (fun i s=>s.length<=500+160*i) (J:=fun s=>some s) (F:=B0n b) (fun g i s hi hI=>?_) (fun i s hi hI=>?_) (fun g s _=>aE) z hcl
  ·have hI:s.length<=500+160*i:=hI;have hi':i<b.2.2.length:=by omega
   have hs78:=(Rw hb hi').s78;obtain⟨d1,d2,d3⟩:=H0w b hw hb hi';have es:u71 b.2.1 (i:Int)=some (A9 b.2.1 i):=r71 b.2.1 hd df _;refine(if_pos (by simpa using hi)).trans ?_;rw[d1,vS,gP ⟨rfl,trivial⟩,lE,es,vS,gP ⟨rfl,trivial⟩,lE];refine(lF (n:=(A9 b.2.1 i).length) (by omega) (fun(k:Nat) (y:List x7)=>((k:Int),y)) (Gq (J1 b i) (A9 b.2.1 i)) (fun k y=>y.length=s.length+2*k) (J:=y0x (i:Int) g) (F:=B0m (J1 b i) (A9 b.2.1 i) (i:Int) g) (fun g8 k y hk hy=>?_) (fun k y hk hy=>?_) (fun g8 y _=>aE) s rfl).trans ?_
   ·have hy:y.length=s.length+2*k:=hy;have e4:((k:Int)).toNat=k:=rfl;have hsp:=p0j df hk;have p1:=Ny y (J1 b i) ((A9 b.2.1 i).getD k 0) 0 0 2 (k:Int) (by omega) hsp oo oo (by omega);have p2:=Ny (y++[(2*J1 b i+0,2*(A9 b.2.1 i).getD k 0+0,2,(k:Int))]) (J1 b i) ((A9 b.2.1 i).getD k 0) 1 1 2 (k:Int) (by omega) hsp oo oo (by rw[List.length_append]; show y.length+1<=_; omega);refine(if_pos (by simpa using hk)).trans ?_;rw[e4,p1,vS,gP ⟨oo,hk,rfl,trivial⟩,lE,p2,vS,gP ⟨oo,hk,rfl,trivial⟩,lE];exact gP ⟨oo,trivial⟩
   ·have hy:y.length=s.length+2*k:=hy;rw[Sk,hy]; omega
   ·exact gP ⟨oo,trivial⟩
  ·have hI:s.length<=500+160*i:=hI;have hs78:=(Rw hb (show i<b.2.2.length by omega)).s78;unfold Hq;rw[Bv];show s.length+2*(A9 b.2.1 i).length<=_;omega
theorem P9{b:Y34}(hb:A7 b=true):(lV b).length<=6000:=by
 have df:=Kq (Tq hb).1;have h14:=df.fac.ni14;have h1:=Ky df b.2.1.1.length (Nat.le_refl _);have h2:=Bm (J1 b) (fun i=>A9 b.2.1 i) (Jj b) (n:=b.2.2.length) (c:=78) (fun i hi=>(Rw hb hi).s78) b.2.2.length (Nat.le_refl _);have h3:=(Tq hb).2.1;have h30:=df.fac.nn30;have h4:(Jj b).length=(fN (Mq b) b.2.1.1.length (0,[])).2.length:=rfl;unfold lV;omega
theorem z0m{b:Y34}{l:x7}(h:l∈lV b):(∃i j t,i<b.2.1.1.length/\j < (y6 b i).2.2.2.1.length/\t < (K5 (m5 (y6 b i) j).1 (m5 (y6 b i) j).2.2.2.1).length/\l=Sw (A3 (m6 b.2.1) i:Int) (m5 (y6 b i) j) j t) ∨
  ∃i k t,i<b.2.2.length/\k < (A9 b.2.1 i).length/\t<2/\l=Kz (J1 b i) ((A9 b.2.1 i).getD k 0) k t:=by
 rcases Qb _ h with h | h
 ·exact .inl (Nb (fun _=>rfl) _ h)
 ·exact .inr h
theorem Vb(pl:Nat->A6)(t:Int):∀m,0<m->P7 pl t m<m
 | 1,_=>by
   have e:P7 pl t 1=if((pl 0).2.2.1==t&&(pl 0).2.2.2)=true then((0:Nat):Int) else 0:=rfl
   rw[e];split <;> simp
 | m+2,_=>by
   have e:P7 pl t (m+2)=if((pl (m+1)).2.2.1==t&&(pl (m+1)).2.2.2)=true then((m+1:Nat):Int) else P7 pl t (m+1):=rfl
   have:=Vb pl t (m+1) (by omega);rw[e];split <;> omega
theorem p0x{b:Y34}(hb:A7 b=true){l:x7}(h:l∈lV b):0<=l.1/\l.1<2*((r6 b.2.1).length:Int)/\0<=l.2.1/\l.2.1<2*((r6 b.2.1).length:Int):=by
 obtain⟨hd,hlen,_⟩:=Tq hb;have df:=Kq hd;rcases z0m h with ⟨i,j,t,hi,hj,ht,rfl⟩ | ⟨i,k,t,hi,hk,ht,rfl⟩
 ·obtain⟨x1,x2,x3⟩:=Gz df hi;obtain⟨c1,c2,c3,c4⟩:=Hz x2;obtain⟨a1,a2,a3,a4⟩:=c4 j hj;obtain⟨A,hA⟩:∃A:Nat,(m5 (y6 b i) j).2.1=(A:Int):=⟨(m5 (y6 b i) j).2.1.toNat,by omega⟩;obtain⟨B,hB⟩:∃B:Nat,(m5 (y6 b i) j).2.2.1=(B:Int):=⟨(m5 (y6 b i) j).2.2.1.toNat,by omega⟩;have hAn:A < (m6 b.2.1 i).2.2.length:=by omega
  have hBn:B < (m6 b.2.1 i).2.2.length:=by omega
  have lA:A3 (m6 b.2.1) i+A < (r6 b.2.1).length:=by
   have:=Dv (m6 b.2.1) hi hAn;unfold r6;rw[Lw]; omega
  have lB:A3 (m6 b.2.1) i+B < (r6 b.2.1).length:=by
   have:=Dv (m6 b.2.1) hi hBn;unfold r6;rw[Lw]; omega
  have tr:=(Lk _ _).2 _ (X1 (d:=(0,0)) ht);have e1:(Sw (A3 (m6 b.2.1) i:Int) (m5 (y6 b i) j) j t).1=2*((A3 (m6 b.2.1) i:Int)+(A:Int))+((K5 (m5 (y6 b i) j).1 (m5 (y6 b i) j).2.2.2.1).getD t (0,0)).1:=by
   rw[<- hA]; rfl
  have e2:(Sw (A3 (m6 b.2.1) i:Int) (m5 (y6 b i) j) j t).2.1=2*((A3 (m6 b.2.1) i:Int)+(B:Int))+((K5 (m5 (y6 b i) j).1 (m5 (y6 b i) j).2.2.2.1).getD t (0,0)).2:=by
   rw[<- hB]; rfl
  rw[e1,e2];omega
 ·obtain⟨q,h1,h2,h3,_⟩:=Kk (x5 b.2.1) i (r6 b.2.1).length _ (X1 (d:=0) hk);have h1:(A9 b.2.1 i).getD k 0=(q:Int):=h1;have d1:=(Pk (x5 b.2.1) i (r6 b.2.1).length).1;have d2:=Vb (x5 b.2.1) i (r6 b.2.1).length (by omega);have e1:(Kz (J1 b i) ((A9 b.2.1 i).getD k 0) k t).1=2*P7 (x5 b.2.1) i (r6 b.2.1).length+(t:Int):=rfl;have e2:(Kz (J1 b i) ((A9 b.2.1 i).getD k 0) k t).2.1=2*(q:Int)+(t:Int):=by
   rw[<- h1]; rfl
  rw[e1,e2];omega
section
variable (b:Y34)
def l5:Nat:=2*(r6 b.2.1).length
def frN(i:Nat):Nat:=((lV b).getD i (d6 y48)).1.toNat
def toN(i:Nat):Nat:=((lV b).getD i (d6 y48)).2.1.toNat
theorem M4(hb:A7 b=true){i:Nat}(hi:i < (lV b).length):((lV b).getD i (d6 y48)).1=(frN b i:Int)/\((lV b).getD i (d6 y48)).2.1=(toN b i:Int)/\frN b i<l5 b/\toN b i<l5 b:=by
 obtain⟨h1,h2,h3,h4⟩:=p0x hb (X1 (d:=d6 y48) hi);unfold frN toN l5;omega
theorem Pq(hb:A7 b=true):l5 b<=1000000:=by
 have hl:=(Kq (Tq hb).1).len;unfold l5;omega
theorem Pv(hb:A7 b=true):B1 (r5 b)=some (l5 b:Int):=by
 have hl:=(Kq (Tq hb).1).len;have e:∀s:List B2,u67 s=some (s.length:Int):=fun _=>rfl;unfold B1;rw[e,vS,gP ⟨rfl,⟨by show _<=2*((r6 b.2.1).length:Int); omega,by show 2*((r6 b.2.1).length:Int)<=_; omega⟩,trivial⟩,lE];unfold l5;rw[Int.natCast_mul];rfl
theorem r61(hw:wf y34 b)(hb:A7 b=true):u61 b=some (l5 b:Int):=by
 have df:=Kq (Tq hb).1;have hl:=df.len;unfold u61;rw[Kv b.2.1 hw.2.1 df.fac.ni14 df.fac.np8 df.pin,vS,gP ⟨rfl,⟨by show _<=2*((r6 b.2.1).length:Int); omega,by show 2*((r6 b.2.1).length:Int)<=_; omega⟩,trivial⟩,lE];unfold l5;rw[Int.natCast_mul];rfl
end
def B6(l:List Int)(x:Int):Bool:=(List.range l.length).any fun j=>l.getD j 0==x
theorem H0v(l:List Int)(x:Int)(hl:l.length<=9223372036854775807):t0l l x=some (B6 l x):=by
 have key:=I6 hl (fun j=>l.getD j 0==x) (some true) (e:=some false) (F:=x0o l x) (fun g i hi=>by
  have e3:((i:Int)).toNat=i:=rfl;refine(if_pos (decide_eq_true (by omega))).trans ((gP ⟨oo,trivial⟩).trans ?_);rw[e3];by_cases h:(l.getD i 0==x)=true
  ·rw[if_pos h,if_pos h]
  ·rw[if_neg h,if_neg h];exact gP ⟨oo,trivial⟩) (fun g=>if_neg (by simp))
 refine key.trans ?_;unfold B6;cases(List.range l.length).any fun j=>l.getD j 0==x <;> rfl
def A0(M:Nat)(br:List Int):List Bool:=fN (N3 fun k=>!B6 br (k:Int)) M []
theorem r62(ls:List Y48)(br:List Int)(h1:ls.length<=1048576)(h2:br.length<=1048576):u62 ls br=some (A0 ls.length br):=by
 refine(lF (n:=ls.length) (by omega) (fun i (s:List Bool)=>((i:Int),s)) (N3 fun k=>!B6 br (k:Int)) (fun i s=>s.length=i) (J:=fun s=>some s) (F:=B0k br ls) (fun g i s hi hs=>?_) (fun i s _ hs=>by show(s++[_]).length=_; simp[hs]) (fun g s _=>if_neg (by simp)) [] rfl).trans rfl;have e3:((i:Int)).toNat=i:=rfl;refine(if_pos (decide_eq_true (by omega))).trans ?_;rw[H0v br _ (by omega),vS];refine(gP ⟨rfl,⟨by simp only[List.length_singleton]; omega,by simp only[List.length_singleton]; omega⟩,trivial⟩).trans ?_;exact gP ⟨oo,trivial⟩
def Qq(M:Nat)(br:List Int):Bool:=br.all (inB · 0 ((M:Int)-1))&&Kx br
theorem z0u:p0W []=some true:=by
 unfold p0W;refine z0g (fun n hn=>?_);obtain⟨m,rfl⟩:∃m,n=m+1:=⟨n-1,by omega⟩;rfl
theorem E0n(xs:List Int)(h:xs.length<=9223372036854775807):p0W xs=some (Kx xs):=by
 cases xs with
 | nil=>exact z0u
 | cons x r=>exact Wk _ h (by simp)
theorem H0A{b:Y34}(hb:A7 b=true)(br:List Int)(h:br.length<=1048576):A0r (r5 b) br=some (Qq (lV b).length br):=by
 have hl:=P9 hb;have e:w0J (r5 b).2.2.1=some ((lV b).length:Int):=rfl;unfold A0r;rw[e,vS,Dz br 0 _ (by omega),vS,E0n br (by omega),vS,gP ⟨rfl,oo,rfl,(fun _=>rfl),trivial⟩];rfl
theorem Wb(M:Nat)(br:List Int)(hM:M<=1048576)(h:br.length<=1048576):B0Q br (M:Int)=some (Qq M br):=by
 have key:=I6 (n:=br.length) (by omega) (fun i=>!inB (br.getD i 0) 0 ((M:Int)-1)||(decide (0<i)&&decide (br.getD i 0<=br.getD (i-1) 0))) (some false) (e:=some true) (F:=x0x br (M:Int)) (fun g i hi=>by
  have e3:((i:Int)).toNat=i:=rfl;have e4:((i:Int)-1).toNat=i-1:=by omega
  refine(if_pos (decide_eq_true (by omega))).trans ?_;rw[r97,vS,e3,e4];refine(gP ⟨oo,oo,rfl,(fun hc=>oo),(fun hc=>⟨by have:=of_decide_eq_true hc.1; omega,by omega⟩),(fun _=>oo),trivial⟩).trans ?_;have ed:decide ((0:Int) < (i:Int))=decide (0<i):=by
   rw[decide_eq_decide]; omega
  rw[ed];by_cases hc:(!inB (br.getD i 0) 0 ((M:Int)-1)||(decide (0<i)&&decide (br.getD i 0<=br.getD (i-1) 0)))=true
  ·rw[if_pos hc,if_pos hc]
  ·rw[if_neg hc,if_neg hc];exact gP ⟨oo,trivial⟩) (fun g=>if_neg (by simp))
 refine key.trans ?_;have e:Qq M br=!((List.range br.length).any fun i=>!inB (br.getD i 0) 0 ((M:Int)-1)||(decide (0<i)&&decide (br.getD i 0<=br.getD (i-1) 0))):=by
  unfold Qq Kx;rw[Bool.eq_iff_iff];simp only[ba,Bool.not_eq_true',<- Bool.not_eq_true,List.any_eq_true,List.all_eq_true,List.mem_range,Bool.or_eq_true];constructor
  ·rintro⟨h1,h2⟩ ⟨i,hi,hc⟩;rcases hc with hc | hc
   ·exact hc (h1 _ (X1 hi))
   ·exact h2 ⟨i,hi,hc⟩
  ·intro hn;refine⟨fun x hx=>?_,fun⟨i,hi,hc⟩=>hn ⟨i,hi,.inr hc⟩⟩;obtain⟨i,hi,rfl⟩:=List.getElem_of_mem hx;by_cases hc:inB br[i] 0 ((M:Int)-1)=true
   ·exact hc
   ·refine(hn ⟨i,hi,.inl ?_⟩).elim;rw[gq,List.getElem?_eq_getElem hi];exact hc
 rw[e];cases(List.range br.length).any fun i=>!inB (br.getD i 0) 0 ((M:Int)-1)||(decide (0<i)&&decide (br.getD i 0<=br.getD (i-1) 0)) <;> rfl
theorem Qy{σ:Type}(g:σ->Nat->σ)(l:List Nat)(s:σ):fN (fun i s=>g s (l.getD i 0)) l.length s=l.foldl g s:=by
 have key:∀n,n<=l.length->fN (fun i s=>g s (l.getD i 0)) n s=(l.take n).foldl g s:=by
  intro n
  induction n with
  | zero=>intro _; rfl
  | succ n ih =>
    intro hn;have e:l.take (n+1)=l.take n++[l.getD n 0]:=by
     rw[List.take_add_one,gq,List.getElem?_eq_getElem (by omega)];rfl
    rw[e,List.foldl_append,<- ih (by omega)];rfl
 have:=key l.length (Nat.le_refl _)
 rwa [List.take_length] at this
theorem y0H(M:Nat):∀m,m<=M->(fN (fun i (s:List Bool)=>s.set i true) m (List.replicate M false)).length=M/\∀k,k<m->(fN (fun i (s:List Bool)=>s.set i true) m (List.replicate M false)).getD k false=true:=by
 intro m
 induction m with
 | zero=>exact fun _=>⟨List.length_replicate,fun k hk=>by omega⟩
 | succ m ih =>
   intro hm;obtain⟨h1,h2⟩:=ih (by omega);refine⟨by show(List.set _ _ _).length=M; rw[List.length_set,h1],fun k hk=>?_⟩;show(List.set _ _ _).getD k false=true;rw[Hx _ (by rw[h1]; omega)];by_cases e:k=m
   ·rw[if_pos e]
   ·rw[if_neg e]; exact h2 k (by omega)
theorem z0Q(br:List Int)(s:List Bool):∀m,(∀j,j<m->(br.getD j 0).toNat<s.length)->(fN (fun i (s:List Bool)=>s.set (br.getD i 0).toNat false) m s).length=s.length/\∀k,(fN (fun i (s:List Bool)=>s.set (br.getD i 0).toNat false) m s).getD k false=(s.getD k false&&!(List.range m).any fun j=>(br.getD j 0).toNat==k):=by
 intro m
 induction m with
 | zero=>exact fun _=>⟨rfl,fun k=>by show s.getD k false=_; simp⟩
 | succ m ih =>
   intro hm;obtain⟨h1,h2⟩:=ih (fun j hj=>hm j (by omega));refine⟨by show(List.set _ _ _).length=_; rw[List.length_set,h1],fun k=>?_⟩;show(List.set _ _ _).getD k false=_;rw[Hx _ (by rw[h1]; exact hm m (by omega)),h2,List.range_succ,List.any_append];by_cases e:k=(br.getD m 0).toNat
   ·have:((br.getD m 0).toNat==k)=true:=by rw[e]; exact beq_self_eq_true _
    rw[if_pos e];simp only[List.any_cons,List.any_nil,this,Bool.or_true,Bool.true_or,Bool.not_true,Bool.and_false]
   ·have:((br.getD m 0).toNat==k)=false:=beq_eq_false_iff_ne.2 (Ne.symm e);rw[if_neg e];simp only[List.any_cons,List.any_nil,this,Bool.or_false]
def J3(p:Nat->Bool)(M:Nat):List Int:=((List.range M).filter p).map fun i:Nat=>(i:Int)
theorem Kj(p:Nat->Bool):∀m,fN (fun i (s:List Int)=>if p i=true then s++[(i:Int)] else s) m []=J3 p m
 | 0=>rfl
 | m+1=>by
   show(if p m=true then fN _ m []++[(m:Int)] else fN _ m [])=_;rw[Kj p m];unfold J3;rw[List.range_succ,List.filter_append,List.map_append];by_cases h:p m=true
   ·rw[if_pos h]; simp[h]
   ·rw[if_neg h]; simp[h]
theorem Mz(p:Nat->Bool)(M:Nat):(J3 p M).length<=M/\(J3 p M).length=((List.range M).filter p).length:=by
 unfold J3;rw[List.length_map];have:=List.length_filter_le p (List.range M);rw[List.length_range] at this;exact⟨this,rfl⟩
theorem Ry(p:Nat->Bool)(M i:Nat):(J3 p M).getD i 0=((((List.range M).filter p).getD i 0:Nat):Int):=by
 unfold J3;rw[gq,gq,List.getElem?_map];cases((List.range M).filter p)[i]? <;> rfl
theorem Sy{p:Nat->Bool}{M i:Nat}(h:i < ((List.range M).filter p).length):((List.range M).filter p).getD i 0<M:=by
 have:=X1 (d:=0) h;rw[List.mem_filter,List.mem_range] at this;exact this.1
section
variable {b:Y34}
theorem H0z(hb:A7 b=true){br:List Int}(hbr:Qq (lV b).length br=true)(hl:br.length<=1048576):B0R (r5 b) br=some (r5 b,A0 (lV b).length br):=by
 have hM:=P9 hb;have hbr:=hbr;unfold Qq at hbr;rw[ba] at hbr;have hin:∀j,j<br.length->0<=br.getD j 0/\br.getD j 0 < ((lV b).length:Int):=fun j hj=>by
  have:=D1.1 (Aj hbr.1 hj);omega
 obtain⟨t1,t2⟩:=y0H (lV b).length (lV b).length (Nat.le_refl _);obtain⟨f1,f2⟩:=z0Q br (fN (fun i (s:List Bool)=>s.set i true) (lV b).length (List.replicate (lV b).length false)) br.length (fun j hj=>by
  have:=hin j hj;omega)
 have hres:fN (fun i (s:List Bool)=>s.set (br.getD i 0).toNat false) br.length (fN (fun i (s:List Bool)=>s.set i true) (lV b).length (List.replicate (lV b).length false))=A0 (lV b).length br:=by
  refine d0N false (by rw[f1,t1]; exact(Jw _ _).symm) (fun k hk=>?_);have hk:k < (lV b).length:=by rw[f1,t1] at hk; exact hk
  rw[f2,t2 k hk,Bool.true_and];refine Eq.trans ?_ (Cv (fun k=>!B6 br (k:Int)) false _ k hk).symm;congr 1;unfold B6;rw[Bool.eq_iff_iff,List.any_eq_true,List.any_eq_true];constructor
  ·rintro⟨j,hj,he⟩;have:=hin j (List.mem_range.1 hj);have he:=eq_of_beq he;exact⟨j,hj,by rw[beq_iff_eq]; omega⟩
  ·rintro⟨j,hj,he⟩;have:=hin j (List.mem_range.1 hj);have he:=eq_of_beq he;exact⟨j,hj,by rw[beq_iff_eq]; omega⟩
 unfold B0R;have eM:((r5 b).2.2.1.length:Int)=((lV b).length:Int):=rfl;rw[eM,Int.toNat_natCast];refine(gP ⟨⟨by omega,rfl,by omega,by omega⟩,trivial⟩).trans ?_;rw[lE,List.length_replicate];refine(lF (n:=(lV b).length) (by omega) (fun i (s:List Bool)=>((i:Int),s)) (fun i s=>s.set i true) (fun _ s=>s.length=(lV b).length) (J:=fun s=>k0v br (r5 b) s) (F:=x0A br (r5 b) ((lV b).length:Int)) (fun g i s hi hs=>?_) (fun i s _ hs=>by rw[List.length_set]; exact hs) (fun g s _=>if_neg (by simp)) (List.replicate (lV b).length false) List.length_replicate).trans ?_
 ·have e3:((i:Int)).toNat=i:=rfl;refine(if_pos (decide_eq_true (by omega))).trans ?_;refine(gP ⟨oo,by omega,trivial⟩).trans ?_;exact gP ⟨oo,trivial⟩
 ·show k0v br (r5 b) _=_;rw[k0v];refine(lF (n:=br.length) (by omega) (fun i (s:List Bool)=>((i:Int),s)) (fun i s=>s.set (br.getD i 0).toNat false) (fun _ s=>s.length=(lV b).length) (J:=fun s=>some (r5 b,s)) (F:=x0z br (r5 b)) (fun g i s hi hs=>?_) (fun i s _ hs=>by rw[List.length_set]; exact hs) (fun g s _=>if_neg (by simp)) _ t1).trans ?_
  ·have e3:((i:Int)).toNat=i:=rfl;have:=hin i hi;refine(if_pos (decide_eq_true (by omega))).trans ?_;refine(gP ⟨oo,trivial⟩).trans ?_;rw[e3];refine(gP ⟨oo,by omega,trivial⟩).trans ?_;exact gP ⟨oo,trivial⟩
  ·exact congrArg (fun x=>some (r5 b,x)) hres
theorem E0s(hb:A7 b=true){lv:List Bool}(hlv:lv.length=(lV b).length)(a:Nat):g0A (r5 b,lv) (a:Int)=some (J3 (fun i=>lv.getD i false&&frN b i==a) (lV b).length):=by
 have hM:=P9 hb;refine(lF (n:=(lV b).length) (by omega) (fun i (s:List Int)=>(s,(i:Int))) (fun i s=>if(lv.getD i false&&frN b i==a)=true then s++[(i:Int)] else s) (fun i s=>s.length<=i) (J:=fun s=>some s) (F:=i0C (r5 b,lv) (a:Int)) (fun g i s hi hs=>?_) (fun i s _ hs=>?_) (fun g s _=>if_neg (by simp[r5])) [] (Nat.le_refl _)).trans (congrArg some (Kj _ _))
 ·have e3:((i:Int)).toNat=i:=rfl;have hx:ix (i:Int) (r5 b).2.2.1.length:=⟨by omega,by show(i:Int) < ((lV b).length:Int); omega⟩;refine(if_pos (decide_eq_true hx.2)).trans ((gP ⟨hx,trivial⟩).trans ?_);rw[lE];refine(gP ⟨⟨by omega,by show(i:Int) < (lv.length:Int); omega⟩,(fun _=>rfl),trivial⟩).trans ?_;obtain⟨f1,_⟩:=M4 b hb hi;have ef:(((lV b).getD i (d6 y48)).1==(a:Int))=(frN b i==a):=by
   rw[f1,Bool.eq_iff_iff,beq_iff_eq,beq_iff_eq]; omega
  show(if(lv.getD i false&&(((lV b).getD i (d6 y48)).1==(a:Int)))=true then _ else _)=_;rw[ef];by_cases h:(lv.getD i false&&frN b i==a)=true
  ·rw[if_pos h,if_pos h];refine(gP ⟨⟨by simp only[List.length_singleton]; omega,by simp only[List.length_singleton]; omega⟩,trivial⟩).trans ?_;exact gP ⟨oo,trivial⟩
  ·rw[if_neg h,if_neg h];exact gP ⟨oo,trivial⟩
 ·show(if(lv.getD i false&&frN b i==a)=true then s++[(i:Int)] else s).length<=i+1;split
  ·rw[List.length_append,List.length_singleton]; omega
  ·omega
theorem r73(hb:A7 b=true){lv:List Bool}(hlv:lv.length=(lV b).length)(a:Nat):u73 (r5 b,lv) (a:Int)=some (J3 (fun i=>lv.getD i false&&frN b i==a) (lV b).length):=by
 unfold u73;rw[E0s hb hlv,vS,gP ⟨rfl,trivial⟩,lE]
end
section
variable {b:Y34}
end
section
variable {b:Y34}
theorem Lj(M:Nat)(br:List Int):(A0 M br).length=M:=Jw _ _
end
def N4(b:Y34)(br:List Int):Int:=if A7 b=true then(if Qq (lV b).length br=true then 0 else 2) else 1
theorem r58(b:Y34)(hw:wf y34 b)(hm:cnt y34 b<=1048576)(br:List Int)(hl:br.length<=1048576):u58 b br=some (N4 b br):=by
 unfold u58 N4;rw[r23 b hw hm,vS,gP ⟨rfl,trivial⟩];cases hb:A7 b with
 | false=>rfl
 | true =>
   have hM:=P9 hb;refine(if_neg (by simp)).trans ?_;rw[r59 b hw hb,vS,Wb _ br (by omega) hl,gP ⟨rfl,rfl,trivial⟩,lE,Wb _ br (by omega) hl,vS];cases Qq (lV b).length br <;> rfl
theorem r56(b:Y34)(hw:wf y34 b)(hm:cnt y34 b<=1048576)(br:List Int)(hl:br.length<=1048576):u56 b br=some (if N4 b br=0 then .inr ((r5 b,A0 (lV b).length br),0) else .inl (N4 b br)):=by
 unfold u56 N4;rw[r65 b hw hm,vS,gP ⟨rfl,trivial⟩];cases hb:A7 b with
 | false=>rfl
 | true =>
   refine(if_neg (by simp)).trans ?_;rw[r66 b hw hb,vS,gP ⟨rfl,trivial⟩,lE,H0A hb br hl,vS,gP ⟨rfl,trivial⟩];cases hr:Qq (lV b).length br with
   | false=>rfl
   | true =>
     refine(if_neg (by simp)).trans ?_;rw[H0z hb hr hl,vS,gP ⟨rfl,trivial⟩,lE];rfl
theorem Mj{b:Y34}{br:List Int}(h:N4 b br=0):A7 b=true/\Qq (lV b).length br=true:=by
 unfold N4 at h;split at h
 ·rename_i hb;split at h
  ·rename_i hr; exact⟨hb,hr⟩
  ·cases h
 ·cases h
theorem z0P{M:List Y48}(hM:M.length<=6000){l:List Int}{s:l8}(h:Sd s)(hl:l.length<=6000) :
  (∃r,t0F M (s.1,s.2.1,s.2.2,l)=some r/\(Sd r.2/\r.1.length<=6001))/\∃r,t0E M (s.1,s.2.1,s.2.2,l)=some r/\(Sd r.2/\r.1.length<=6001):=by
 obtain⟨v,s0,e0,hs0,-,-,-⟩:=C0 (n:=12) h (by omega);obtain⟨q,s1,e1,hs1,qa,qb,-⟩:=C0 (n:=2) hs0 (by omega);have qb:=qb (by omega);have hin:l3 ((M.length:Int)*q):=by
  have h1:(M.length:Int)*q<=6000*1:=Int.mul_le_mul (by omega) (by omega) qa (by omega);have h2:0<=(M.length:Int)*q:=Int.mul_nonneg (by omega) qa;exact oo
 constructor
 ·unfold t0F;simp only[e0,vS,Option.isSome_some];refine m0 ⟨trivial,trivial⟩ (A8 ?_);dsimp only;split
  ·simp only[e1,vS,Option.isSome_some];refine m0 ⟨trivial,hin,⟨by rw[List.length_singleton]; omega,by rw[List.length_singleton]; omega⟩,trivial⟩ (A8 ?_);exact⟨_,rfl,hs1,by simp only[List.length_append,List.length_singleton]; omega⟩
  ·exact⟨_,rfl,hs0,by simp only; omega⟩
 ·unfold t0E;simp only[e0,vS,Option.isSome_some];refine m0 ⟨trivial,trivial⟩ (A8 ?_);dsimp only;split
  ·simp only[e1,vS,Option.isSome_some];refine m0 ⟨trivial,hin,⟨by rw[List.length_singleton]; omega,by rw[List.length_singleton]; omega⟩,trivial⟩ (A8 ?_);exact⟨_,rfl,hs1,by simp only[List.length_append,List.length_singleton]; omega⟩
  ·exact⟨_,rfl,hs0,by simp only; omega⟩
theorem C0N{s:l8}(h:Sd s){b:Y34}(hw:wf y34 b)(hm:cnt y34 b<=20000):∃r,u55 s b=some r/\(Sd r.2/\r.1.length<=6001):=by
 unfold u55;simp only[r23 b hw (Nat.le_trans hm (by decide)),vS,Option.isSome_some];cases hb:A7 b with
 | false =>
   refine m0 ⟨trivial,trivial⟩ ?_;rw[if_pos (by decide)];refine m0 trivial ?_;rw[if_pos (by decide)];exact⟨_,rfl,h,by simp⟩
 | true =>
   have hM:=P9 hb;obtain⟨v,s0,e0,hs0,-,-,-⟩:=C0 (n:=3) h (by omega);obtain⟨v1,s1,e1,hs1,a1,b1,-⟩:=C0 (n:=8) hs0 (by omega);have b1:=b1 (by omega);obtain⟨v2,s2,e2,hs2,a2,b2,-⟩:=C0 (n:=1+v1) hs1 (by omega);have b2:=b2 (by omega);refine m0 ⟨trivial,trivial⟩ ?_;rw[if_neg (by decide)];simp only[e0,vS,Option.isSome_some];refine m0 ⟨⟨trivial,trivial⟩,trivial⟩ ?_;split
   ·exact A8 ⟨_,rfl,hs0,by simp⟩
   ·simp only[r59 b hw hb,vS,Option.isSome_some];refine m0 ⟨trivial,trivial⟩ (A8 ?_);dsimp only;simp only[e1,vS,Option.isSome_some];refine m0 ⟨trivial,oo,trivial⟩ (A8 ?_);dsimp only;simp only[e2,vS,Option.isSome_some];refine m0 ⟨trivial,trivial⟩ (A8 ?_);dsimp only;refine M8 (fun x=>(7000-x.1).toNat) (fun x=>Sd (x.2.1,x.2.2.1,x.2.2.2.1)/\0<=x.1/\x.1<=6100/\(x.2.2.2.2.length:Int)<=x.1/\x.2.2.2.2.length<=6000) ?_ ⟨hs2,by simp only; omega,by simp only; omega,by simp; omega,by simp⟩ (by simp only; omega);rintro g ⟨i,c,at0,sd0,l⟩ ⟨i1,i2,i3,i4,i5⟩ ih;simp only at i1 i2 i3 i4 i5;unfold B0r;dsimp only;split
    ·rename_i hc;have hc:=of_decide_eq_true hc;obtain⟨v3,s3,e3,hs3,a3,b3,-⟩:=C0 (n:=1+v1) i1 (by omega);have b3:=b3 (by omega);refine m0 ⟨⟨by rw[List.length_singleton]; omega,by rw[List.length_singleton]; omega⟩,trivial⟩ ?_;simp only[e3,vS,Option.isSome_some];refine m0 ⟨trivial,oo,oo,trivial⟩ (A8 ?_);exact ih _ ⟨hs3,by simp only; omega,by simp only; omega,by simp only[List.length_append,List.length_singleton]; omega,by simp only[List.length_append,List.length_singleton]; omega⟩ (by simp only; omega)
    ·exact(z0P hM (s:=(c,at0,sd0)) i1 i5).2
theorem G0N{v:Y34×l8}(h:wfA (R80 v)):wf y34 v.1:=⟨h.1,⟨h.2.1,h.2.2.1,h.2.2.2.1⟩,h.2.2.2.2.1⟩
section
variable [Alw]
theorem v0E{s:l8}(h:Sd s):u80 s=some ():=by
 refine L0 ?_;obtain⟨v,s0,e0,hs0,-,-,-⟩:=C0 (n:=4) h (by omega);unfold u80;simp only[e0,vS,Option.isSome_some];refine m0 ⟨trivial,trivial⟩ (A8 ?_);dsimp only;split
 ·refine m0 ⟨trivial,hs0.1⟩ (V7 ?_);rintro⟨b,s1⟩ ⟨⟨t1,t5⟩,-,hz⟩;exact L0 (m0 trivial (m0 ⟨t1,t5⟩ ⟨_,rfl,trivial⟩))
 ·refine m0 ⟨trivial,Ww hs0.1 (by omega) (by omega)⟩ (V7 ?_);rintro⟨b,s1⟩ ⟨⟨t1,t2,t3,t4,t5⟩,-,hz⟩;exact L0 (m0 trivial (m0 ⟨t1,Nat.le_trans t5 (by decide)⟩ ⟨_,rfl,trivial⟩))
theorem k80:K80:=e80 Wv k54 fun x hw hp=>v0E (Bx hw.1 hp)
theorem s0z{c:List Int}(h:wf (.sl (.int .u8)) c):u32 c=some ():=by
 obtain⟨s,e,hs⟩:=z0z h;refine L0 ?_;unfold u32;simp only[e,vS,Option.isSome_some];refine m0 ⟨trivial,trivial⟩ (A8 ?_);refine m0 ⟨trivial,hs.1⟩ (V7 ?_);intro v1 ⟨⟨t1,t2⟩,hw,hz⟩;obtain⟨r,e2,hr,hl⟩:=C0N (s:=Z80 v1) (b:=v1.1) (Bx hz t1) (G0N hw) t2;refine L0 (m0 trivial ?_);simp only[e2,vS,Option.isSome_some];exact m0 ⟨trivial,trivial⟩ (A8 (m0 ⟨t2,by show r.1.length<=20000; omega⟩ ⟨_,rfl,trivial⟩))
theorem k32:K32:=e32 k80 fun x hw _=>s0z hw.1
end
section
variable {b:Y34}
end
def Wq(b:Y34)(br:List Int)(a:Int):Int:=if N4 b br=0 then(if inB a 0 ((l5 b:Int)-1)=true then 0 else 4) else N4 b br
theorem Xb{b:Y34}{br:List Int}{a:Int}(h:Wq b br a=0):N4 b br=0/\inB a 0 ((l5 b:Int)-1)=true:=by
 unfold Wq at h;split at h
 ·rename_i hc;split at h
  ·rename_i hr; exact⟨hc,hr⟩
  ·cases h
 ·contradiction
theorem H0o{b:Y34}(hb:A7 b=true)(a:Int):w0U (r5 b) a=some (inB a 0 ((l5 b:Int)-1)):=by
 have hN:=Pq b hb;unfold w0U;rw[Pv b hb,vS];refine(gP ⟨rfl,oo,rfl,trivial⟩).trans ?_;rw[X3,vS]
theorem r72(b:Y34)(hw:wf y34 b)(hm:cnt y34 b<=1048576)(br:List Int)(hl:br.length<=1048576)(a:Int):u72 b br a=some (if Wq b br a=0 then .inr ((r5 b,A0 (lV b).length br),0) else .inl (Wq b br a)):=by
 unfold u72 Wq;rw[r56 b hw hm br hl];by_cases h:N4 b br=0
 ·obtain⟨hb,hr⟩:=Mj h;rw[if_pos h,if_pos h];refine(if_neg (by simp[isL])).trans ((gP ⟨rfl,trivial⟩).trans ?_);show gd (((((0:Int)==0)=true/\True->(w0U (r5 b) a).isSome=true)/\True)) (if(((0:Int)==0)&&!vl (w0U (r5 b) a))=true then _ else _)=_;rw[H0o hb,vS];refine(gP ⟨fun _=>rfl,trivial⟩).trans ?_;cases inB a 0 ((l5 b:Int)-1) <;> rfl
 ·rw[if_neg h,if_neg h];refine(if_pos rfl).trans ((gP ⟨rfl,trivial⟩).trans ?_);refine(if_neg (by show ¬((N4 b br==0)=true); simp[h])).trans ?_;rw[if_neg h];rfl
section
variable {b:Y34}
theorem u0s(hb:A7 b=true){lv:List Bool}(hlv:lv.length=(lV b).length)(a:Nat):g0z (r5 b,lv) (a:Int)=some (J3 (fun i=>lv.getD i false&&toN b i==a) (lV b).length):=by
 have hM:=P9 hb;refine(lF (n:=(lV b).length) (by omega) (fun i (s:List Int)=>(s,(i:Int))) (fun i s=>if(lv.getD i false&&toN b i==a)=true then s++[(i:Int)] else s) (fun i s=>s.length<=i) (J:=fun s=>some s) (F:=i0A (r5 b,lv) (a:Int)) (fun g i s hi hs=>?_) (fun i s _ hs=>?_) (fun g s _=>if_neg (by simp[r5])) [] (Nat.le_refl _)).trans (congrArg some (Kj _ _))
 ·have e3:((i:Int)).toNat=i:=rfl;have hx:ix (i:Int) (r5 b).2.2.1.length:=⟨by omega,by show(i:Int) < ((lV b).length:Int); omega⟩;refine(if_pos (decide_eq_true hx.2)).trans ((gP ⟨hx,trivial⟩).trans ?_);rw[lE];refine(gP ⟨⟨by omega,by show(i:Int) < (lv.length:Int); omega⟩,(fun _=>rfl),trivial⟩).trans ?_;obtain⟨_,f2,_⟩:=M4 b hb hi;have ef:(((lV b).getD i (d6 y48)).2.1==(a:Int))=(toN b i==a):=by
   rw[f2,Bool.eq_iff_iff,beq_iff_eq,beq_iff_eq]; omega
  show(if(lv.getD i false&&(((lV b).getD i (d6 y48)).2.1==(a:Int)))=true then _ else _)=_;rw[ef];by_cases h:(lv.getD i false&&toN b i==a)=true
  ·rw[if_pos h,if_pos h];refine(gP ⟨⟨by simp only[List.length_singleton]; omega,by simp only[List.length_singleton]; omega⟩,trivial⟩).trans ?_;exact gP ⟨oo,trivial⟩
  ·rw[if_neg h,if_neg h];exact gP ⟨oo,trivial⟩
 ·show(if(lv.getD i false&&toN b i==a)=true then s++[(i:Int)] else s).length<=i+1;split
  ·rw[List.length_append,List.length_singleton]; omega
  ·omega
theorem r74(hb:A7 b=true){lv:List Bool}(hlv:lv.length=(lV b).length)(a:Nat):u74 (r5 b,lv) (a:Int)=some (J3 (fun i=>lv.getD i false&&toN b i==a) (lV b).length):=by
 unfold u74;rw[u0s hb hlv,vS,gP ⟨rfl,trivial⟩,lE]
end
theorem C0o{a x:Int}(h:inB a 0 x=true):a=(a.toNat:Int):=by
 unfold inB at h;simp only[ba,dq] at h;omega
theorem Nj{e:Ty}:wf (.sl e) []:=⟨Nat.zero_le _,fun _ h=>nomatch h⟩
structure L0w(M N:Nat)(fr to:Nat->Nat)(lv:Nat->Bool)(out:List Nat):Prop where
 nd:out.Nodup
 lt:∀v∈out,v<N
 bef:∀i,i<M->lv i=true->∀q,q<out.length->out.getD q 0=to i->∃p,p<q/\out.getD p 0=fr i
theorem r18(l:List Int)(x:Int)(hl:l.length<=9223372036854775807):u18 l x=some (B6 l x):=by
 have key:=I6 hl (fun j=>l.getD j 0==x) (some true) (e:=some false) (F:=B0F l x) (fun g i hi=>by
  have e3:((i:Int)).toNat=i:=rfl;refine(if_pos (decide_eq_true (by omega))).trans ((gP ⟨oo,trivial⟩).trans ?_);rw[e3];by_cases h:(l.getD i 0==x)=true
  ·rw[if_pos h,if_pos h]
  ·rw[if_neg h,if_neg h];exact gP ⟨oo,trivial⟩) (fun g=>if_neg (by simp))
 refine key.trans ?_;unfold B6;cases(List.range l.length).any fun j=>l.getD j 0==x <;> rfl
theorem n19(b:Y34)(hw:wf y34 b)(hm:cnt y34 b<=1048576)(hb:A7 b=true):u19 b=some (lV b,0):=by
 unfold u19;rw[r23 b hw hm,vS,hb,r59 b hw hb,vS,gP ⟨rfl,trivial⟩];exact(if_neg (by decide)).trans (gP ⟨rfl,trivial⟩)
end Go.Proofs.YtphnknndgfgepaaGreatDoor
end
