/- The links of a block. Plain facts. -/
import Derived.Test.YtphnknndgfgepaaGreatDoorWB6
import Derived.Test.YtphnknndgfgepaaGreatDoorF76d
section
namespace Go.Proofs.Xd
open Go Go.Proofs Go.Proofs.Xl
abbrev x7:=Int×Int×Int×Int
def K5(k s:Int):List (Int×Int):=if(k==2)=true then [(0,0),(0,1)] else if(k==3)=true then [(1,0),(1,1)] else if(k != 1)=true then [] else if(s==1)=true then [(0,0),(1,1)] else if(s==2)=true then [(0,1),(1,0)] else [(0,0),(0,1),(1,0),(1,1)]
theorem Lk(k s:Int):(K5 k s).length<=4/\∀t∈K5 k s,0<=t.1/\t.1<=1/\0<=t.2/\t.2<=1:=by
 unfold K5;split
 ·exact⟨by decide,by decide⟩
 split
 ·exact⟨by decide,by decide⟩
 split
 ·exact⟨by decide,by decide⟩
 split
 ·exact⟨by decide,by decide⟩
 split
 ·exact⟨by decide,by decide⟩
 ·exact⟨by decide,by decide⟩
def P6(f a b x:Int)(tr:List (Int×Int))(k:Nat)(s:List x7):List x7:=s++[(2*(f+a)+(tr.getD k (0,0)).1,2*(f+b)+(tr.getD k (0,0)).2,1,x)]
theorem Xh(f a b x:Int)(tr:List (Int×Int))(s:List x7):∀k,(fN (P6 f a b x tr) k s).length=s.length+k
 | 0=>rfl
 | k+1=>by
   have:=Xh f a b x tr s k;show(P6 f a b x tr k (fN (P6 f a b x tr) k s)).length=_;generalize fN (P6 f a b x tr) k s=z at this;unfold P6;rw[List.length_append,this]; rfl
def O5(f:Int)(arcs:Nat->H4)(j:Nat)(s:List x7):List x7:=fN (P6 f (arcs j).2.1 (arcs j).2.2.1 (j:Int) (K5 (arcs j).1 (arcs j).2.2.2.1)) (K5 (arcs j).1 (arcs j).2.2.2.1).length s
theorem Nk(f:Int)(arcs:Nat->H4)(j:Nat)(s:List x7):(O5 f arcs j s).length<=s.length+4:=by
 unfold O5;rw[Xh];have:=(Lk (arcs j).1 (arcs j).2.2.2.1).1;omega
def Y3(f:Int)(arcs:Nat->H4)(m:Nat):List x7:=fN (O5 f arcs) m []
theorem Gw(f:Int)(arcs:Nat->H4):∀m,(Y3 f arcs m).length<=4*m
 | 0=>Nat.le_refl _
 | m+1=>by
   have h1:=Gw f arcs m;have h2:=Nk f arcs m (Y3 f arcs m);show(O5 f arcs m (Y3 f arcs m)).length<=_;omega
def R9(nets:Nat->Nat)(arcs:Nat->Nat->H4)(ms:Nat->Nat)(i:Nat)(s:Int×List x7):Int×List x7:=(s.1+(nets i:Int),s.2++Y3 s.1 (arcs i) (ms i))
theorem Yh{nets:Nat->Nat}{arcs:Nat->Nat->H4}{ms:Nat->Nat}{n:Nat}(h:∀i,i<n->nets i<=5/\ms i<=8):∀m,m<=n->0<=(fN (R9 nets arcs ms) m (0,[])).1/\(fN (R9 nets arcs ms) m (0,[])).1<=5*(m:Int)/\(fN (R9 nets arcs ms) m (0,[])).2.length<=32*m
 | 0,_=>⟨Int.le_refl _,Int.le_refl _,Nat.le_refl _⟩
 | m+1,hm=>by
   obtain⟨h1,h2,h3⟩:=Yh h m (by omega);obtain⟨h4,h5⟩:=h m (by omega);show 0<=(R9 nets arcs ms m (fN (R9 nets arcs ms) m (0,[]))).1/\(R9 nets arcs ms m (fN (R9 nets arcs ms) m (0,[]))).1<=_/\(R9 nets arcs ms m (fN (R9 nets arcs ms) m (0,[]))).2.length<=_;generalize fN (R9 nets arcs ms) m (0,[])=z at h1 h2 h3;unfold R9;have:=Gw z.1 (arcs m) (ms m);refine⟨by show 0<=z.1+(nets m:Int); omega,by show z.1+(nets m:Int)<=_; omega,?_⟩;show(z.2++Y3 z.1 (arcs m) (ms m)).length<=_;rw[List.length_append]; omega
def U4(pl:Nat->A6)(i:Nat)(s:List (List Int)×List Int):List (List Int)×List Int:=if(pl i).2.2.2=true then(s.1,s.2.set (pl i).2.2.1.toNat (i:Int)) else(s.1.set (pl i).2.2.1.toNat (s.1.getD (pl i).2.2.1.toNat []++[(i:Int)]),s.2)
def P7(pl:Nat->A6)(t:Int)(m:Nat):Int:=fN (fun i s=>if((pl i).2.2.1==t&&(pl i).2.2.2)=true then(i:Int) else s) m 0
theorem Pk(pl:Nat->A6)(t:Int):∀m,0<=P7 pl t m/\P7 pl t m<=m
 | 0=>⟨Int.le_refl _,Int.le_refl _⟩
 | m+1=>by
   have:=Pk pl t m;have e:P7 pl t (m+1)=if((pl m).2.2.1==t&&(pl m).2.2.2)=true then(m:Int) else P7 pl t m:=rfl
   rw[e];split <;> omega
theorem Zh(pl:Nat->A6)(t:Int)(m:Nat):fN (M1 pl t) (m+1) []=if((pl m).2.2.1==t&&!(pl m).2.2.2)=true then fN (M1 pl t) m []++[(m:Int)] else fN (M1 pl t) m []:=rfl
theorem Hw{α:Type}{l:List α}{i j:Nat}{x d:α}(hi:i<l.length):(l.set i x).getD j d=if j=i then x else l.getD j d:=by
 by_cases h:j=i
 ·subst h; simp[hi]
 ·rw[if_neg h]; simp[List.getElem?_set_ne (Ne.symm h)]
theorem Am(pl:Nat->A6)(n:Nat):∀m,(∀i,i<m->inB (pl i).2.2.1 0 ((n:Int)-1)=true)->(fN (U4 pl) m (List.replicate n [],List.replicate n 0)).1.length=n/\(fN (U4 pl) m (List.replicate n [],List.replicate n 0)).2.length=n /\
  ∀k:Nat,k<n->(fN (U4 pl) m (List.replicate n [],List.replicate n 0)).1.getD k []=fN (M1 pl k) m []/\(fN (U4 pl) m (List.replicate n [],List.replicate n 0)).2.getD k 0=P7 pl k m
 | 0,_=>⟨List.length_replicate,List.length_replicate,fun k hk=>by
   constructor
   ·show(List.replicate n ([]:List Int)).getD k []=[];rw[gq,List.getElem?_replicate,if_pos hk]; rfl
   ·show(List.replicate n (0:Int)).getD k 0=0;rw[gq,List.getElem?_replicate,if_pos hk]; rfl⟩
 | m+1,h=>by
   obtain⟨h1,h2,h3⟩:=Am pl n m (fun i hi=>h i (by omega));have hm:=D1.1 (h m (by omega));have e:fN (U4 pl) (m+1) (List.replicate n [],List.replicate n 0)=U4 pl m (fN (U4 pl) m (List.replicate n [],List.replicate n 0)):=rfl;rw[e];generalize fN (U4 pl) m (List.replicate n [],List.replicate n 0)=z at h1 h2 h3;have hlt:(pl m).2.2.1.toNat<n:=by omega
   have ed:∀k:Nat,P7 pl k (m+1)=if((pl m).2.2.1==(k:Int)&&(pl m).2.2.2)=true then(m:Int) else P7 pl k m:=fun _=>rfl
   have eq:∀k:Nat,((pl m).2.2.1==(k:Int))=decide (k=(pl m).2.2.1.toNat):=fun k=>by
    rw[Bool.eq_iff_iff,beq_iff_eq,dq];omega
   unfold U4;cases hd:(pl m).2.2.2 with
   | true =>
     rw[if_pos rfl];refine⟨h1,by rw[List.length_set]; exact h2,fun k hk=>?_⟩;rw[Zh,ed k,eq,hd];refine⟨by simpa using (h3 k hk).1,?_⟩;show(z.2.set (pl m).2.2.1.toNat (m:Int)).getD k 0=_;rw[Hw (by omega)];by_cases hkk:k=(pl m).2.2.1.toNat
     ·simp[hkk]
     ·rw[if_neg hkk,(h3 k hk).2]; simp[hkk]
   | false =>
     rw[if_neg (by simp)];refine⟨by rw[List.length_set]; exact h1,h2,fun k hk=>?_⟩;rw[Zh,ed k,eq,hd];refine⟨?_,by simpa using (h3 k hk).2⟩;show(z.1.set (pl m).2.2.1.toNat (z.1.getD (pl m).2.2.1.toNat []++[(m:Int)])).getD k []=_;rw[Hw (by omega)];by_cases hkk:k=(pl m).2.2.1.toNat
     ·rw[if_pos hkk,<- hkk,(h3 k hk).1]; simp
     ·rw[if_neg hkk,(h3 k hk).1]; simp[hkk]
def Qk(d s x:Int)(t:Nat)(z:List x7):List x7:=z++[(2*d+(t:Int),2*s+(t:Int),2,x)]
def Gq(d:Int)(sn:List Int)(k:Nat)(z:List x7):List x7:=fN (Qk d (sn.getD k 0) (k:Int)) 2 z
theorem Sk(d:Int)(sn:List Int)(k:Nat)(z:List x7):(Gq d sn k z).length=z.length+2:=by
 show((z++_)++_).length=_;rw[List.length_append,List.length_append]; rfl
def Hq(d:Nat->Int)(sn:Nat->List Int)(i:Nat)(z:List x7):List x7:=fN (Gq (d i) (sn i)) (sn i).length z
theorem Bv(d:Int)(sn:List Int)(z:List x7):∀k,(fN (Gq d sn) k z).length=z.length+2*k
 | 0=>rfl
 | k+1=>by
   have:=Bv d sn z k;show(Gq d sn k (fN (Gq d sn) k z)).length=_;rw[Sk,this]; omega
theorem Bm(d:Nat->Int)(sn:Nat->List Int)(z:List x7){n c:Nat}(h:∀i,i<n->(sn i).length<=c):∀m,m<=n->(fN (Hq d sn) m z).length<=z.length+2*(c*m)
 | 0,_=>by simp[fN]
 | m+1,hm=>by
   have h1:=Bm d sn z h m (by omega);have h2:=h m (by omega);show(fN (Gq (d m) (sn m)) (sn m).length (fN (Hq d sn) m z)).length<=_;rw[Bv,Nat.mul_add c];omega
def N3{α:Type}(f:Nat->α)(i:Nat)(s:List α):List α:=s++[f i]
theorem Jw{α:Type}(f:Nat->α):∀n,(fN (N3 f) n []).length=n
 | 0=>rfl
 | n+1=>by
   have:=Jw f n;show(N3 f n (fN (N3 f) n [])).length=_;generalize fN (N3 f) n []=z at this;unfold N3;rw[List.length_append,this]; rfl
theorem Cv{α:Type}(f:Nat->α)(d:α):∀n i,i<n->(fN (N3 f) n []).getD i d=f i
 | n+1,i,h=>by
   have hl:=Jw f n;have ih:=Cv f d n i;show(N3 f n (fN (N3 f) n [])).getD i d=_;generalize fN (N3 f) n []=s at hl ih;unfold N3;rcases Nat.lt_or_ge i n with hi | hi
   ·rw[Wx (by rw[hl]; exact hi)]; exact ih hi
   ·have:i=n:=by omega
    subst this;rw[Fw (by rw[hl]; exact Nat.le_refl _),hl,Nat.sub_self]; rfl
def A3(x:Nat->C9):Nat->Nat
 | 0=>0
 | i+1=>A3 x i+(x i).2.2.length
theorem Cm(x:C9)(i:Int)(d:A6)(s:List A6):∀n k,k<n->(fN (J6 x i) n s).getD (s.length+k) d=(i,(k:Int),x.2.2.getD k 0,(k:Int)==(x.2.2.length:Int)-1)
 | n+1,k,h=>by
   have hl:=Cz x i s n;have ih:=Cm x i d s n k;show(J6 x i n (fN (J6 x i) n s)).getD _ d=_;generalize fN (J6 x i) n s=z at hl ih;unfold J6;rcases Nat.lt_or_ge k n with hk | hk
   ·rw[Wx (by omega)]; exact ih hk
   ·have:k=n:=by omega
    subst this;rw[Fw (by omega),hl,Nat.sub_self]; rfl
theorem Dm(x:C9)(i:Int)(d:A6)(s:List A6):∀n j,j<s.length->(fN (J6 x i) n s).getD j d=s.getD j d
 | 0,_,_=>rfl
 | n+1,j,h=>by
   have hl:=Cz x i s n;have ih:=Dm x i d s n j h;show(J6 x i n (fN (J6 x i) n s)).getD _ d=_;generalize fN (J6 x i) n s=z at hl ih;unfold J6;rw[Wx (by omega)]; exact ih
theorem Kw(x:Nat->C9):∀n,(fN (N2 x) n []).length=A3 x n
 | 0=>rfl
 | n+1=>by
   have:=Kw x n;show(N2 x n (fN (N2 x) n [])).length=_;unfold N2;rw[Cz];show(fN (N2 x) n []).length+_=_;rw[this]; rfl
theorem Fm(x:Nat->C9)(d:A6):∀n i k,i<n->k < (x i).2.2.length->(fN (N2 x) n []).getD (A3 x i+k) d=((i:Int),(k:Int),(x i).2.2.getD k 0,(k:Int)==((x i).2.2.length:Int)-1)
 | n+1,i,k,hi,hk=>by
   have hl:=Kw x n;have ih:=Fm x d n i k;show(N2 x n (fN (N2 x) n [])).getD _ d=_;generalize fN (N2 x) n []=z at hl ih;unfold N2;rcases Nat.lt_or_ge i n with h | h
   ·have hlt:A3 x i+k<z.length:=by
     rw[hl];have:∀m,i<m->A3 x i+(x i).2.2.length<=A3 x m:=by
      intro m
      induction m with
      | zero=>intro h; omega
      | succ m ih =>
        intro h;show _<=A3 x m+_;rcases Nat.lt_or_ge i m with h' | h'
        ·have:=ih h'; omega
        ·have:i=m:=by omega
         subst this; omega
     have:=this n h;omega
    rw[Dm _ _ _ _ _ _ hlt];exact ih h hk
   ·have:i=n:=by omega
    subst this;rw[<- hl];exact Cm _ _ _ _ _ _ hk
theorem Gm(y:Nat->L8)(d:A6)(s:List A6):∀n j,j<s.length->(fN (J0 y) n s).getD j d=s.getD j d
 | 0,_,_=>rfl
 | n+1,j,h=>by
   have hl:=Cw y s n;have ih:=Gm y d s n j h;show(J0 y n (fN (J0 y) n s)).getD _ d=_;generalize fN (J0 y) n s=z at hl ih;unfold J0;rw[Wx (by omega)]; exact ih
theorem Hm(y:Nat->L8)(d:A6)(s:List A6):∀n k,k<n->(fN (J0 y) n s).getD (s.length+k) d=(-1,(k:Int),(y k).2.2,(y k).2.1==1)
 | n+1,k,h=>by
   have hl:=Cw y s n;have ih:=Hm y d s n k;show(J0 y n (fN (J0 y) n s)).getD _ d=_;generalize fN (J0 y) n s=z at hl ih;unfold J0;rcases Nat.lt_or_ge k n with hk | hk
   ·rw[Wx (by omega)]; exact ih hk
   ·have:k=n:=by omega
    subst this;rw[Fw (by omega),hl,Nat.sub_self]; rfl
theorem Jm(x:Nat->C9):∀n j,j<A3 x n->∃i k,i<n/\k < (x i).2.2.length/\j=A3 x i+k
 | n+1,j,h=>by
   have h:j<A3 x n+(x n).2.2.length:=h;rcases Nat.lt_or_ge j (A3 x n) with hj | hj
   ·obtain⟨i,k,h1,h2,h3⟩:=Jm x n j hj;exact⟨i,k,by omega,h2,h3⟩
   ·exact⟨n,j-A3 x n,by omega,by omega,by omega⟩
theorem Dv(x:Nat->C9){i n k:Nat}(hi:i<n)(hk:k < (x i).2.2.length):A3 x i+k<A3 x n:=by
 induction n with
 | zero=>omega
 | succ n ih =>
   show _<A3 x n+(x n).2.2.length;rcases Nat.lt_or_ge i n with h | h
   ·have:=ih h; omega
   ·have:i=n:=by omega
    subst this; omega
theorem Lw(ni np:Nat)(x:Nat->C9)(y:Nat->L8):(K4 ni np x y).length=A3 x ni+np:=by
 unfold K4;rw[Cw,Kw]
theorem Tk(ni np:Nat)(x:Nat->C9)(y:Nat->L8)(d:A6){i k:Nat}(hi:i<ni)(hk:k < (x i).2.2.length):(K4 ni np x y).getD (A3 x i+k) d=((i:Int),(k:Int),(x i).2.2.getD k 0,(k:Int)==((x i).2.2.length:Int)-1):=by
 unfold K4;rw[Gm _ _ _ _ _ (by rw[Kw]; exact Dv x hi hk)];exact Fm x d ni i k hi hk
theorem Km(ni np:Nat)(x:Nat->C9)(y:Nat->L8)(d:A6){k:Nat}(hk:k<np):(K4 ni np x y).getD (A3 x ni+k) d=(-1,(k:Int),(y k).2.2,(y k).2.1==1):=by
 unfold K4;rw[<- Kw x ni];exact Hm _ _ _ _ _ hk
theorem p0s(ni np:Nat)(x:Nat->C9)(y:Nat->L8)(d:A6){i k:Nat}(hi:i<ni)(hk:k < (x i).2.2.length){j:Nat}(hj:j < (K4 ni np x y).length):(((K4 ni np x y).getD j d).1==(i:Int)&&((K4 ni np x y).getD j d).2.1==(k:Int))=decide (j=A3 x i+k):=by
 rw[Bool.eq_iff_iff,ba,beq_iff_eq,beq_iff_eq,dq];rw[Lw] at hj;constructor
 ·rintro⟨h1,h2⟩;rcases Nat.lt_or_ge j (A3 x ni) with h | h
  ·obtain⟨i',k',h3,h4,h5⟩:=Jm x ni j h;subst h5;rw[Tk ni np x y d h3 h4] at h1 h2;have e1:i'=i:=Int.ofNat.inj h1;have e2:k'=k:=Int.ofNat.inj h2;rw[e1,e2]
  ·have e:j=A3 x ni+(j-A3 x ni):=by omega
   rw[e,Km ni np x y d (by omega)] at h1;have h1:(-1:Int)=(i:Int):=h1;omega
 ·rintro rfl;rw[Tk ni np x y d hi hk];exact⟨rfl,rfl⟩
def P8(P:Nat->Bool)(m:Nat):Nat:=fN (fun i s=>if P i=true then s+1 else s) m 0
theorem Nx(P:Nat->Bool)(m:Nat):P8 P (m+1)=if P m=true then P8 P m+1 else P8 P m:=rfl
theorem Lm{P:Nat->Bool}:∀{m i:Nat},i<m->P i=true->1<=P8 P m
 | m+1,i,h,hp=>by
   rw[Nx];rcases Nat.lt_or_ge i m with h' | h'
   ·have:=Lm h' hp; split <;> omega
   ·have:i=m:=by omega
    subst this;rw[if_pos hp]; omega
theorem Uk{P:Nat->Bool}:∀{m i j:Nat},i<j->j<m->P i=true->P j=true->2<=P8 P m
 | m+1,i,j,h1,h2,hi,hj=>by
   rw[Nx];rcases Nat.lt_or_ge j m with h' | h'
   ·have:=Uk h1 h' hi hj; split <;> omega
   ·have:j=m:=by omega
    subst this;have:=Lm h1 hi;rw[if_pos hj]; omega
theorem Mm{P:Nat->Bool}:∀{m:Nat},1<=P8 P m->∃i,i<m/\P i=true
 | 0,h=>by simp[P8,fN] at h
 | m+1,h=>by
   rw[Nx] at h;by_cases hp:P m=true
   ·exact⟨m,by omega,hp⟩
   ·rw[if_neg hp] at h;obtain⟨i,h1,h2⟩:=Mm h;exact⟨i,by omega,h2⟩
def U5(pl:Nat->A6)(t:Int)(j:Nat):Bool:=(pl j).2.2.1==t&&(pl j).2.2.2
theorem Nm{pl:Nat->A6}{t:Int}:∀{m i:Nat},i<m->U5 pl t i=true->(∀j,i<j->j<m->U5 pl t j=false)->P7 pl t m=(i:Int)
 | m+1,i,h,hi,hn=>by
   have e:P7 pl t (m+1)=if U5 pl t m=true then(m:Int) else P7 pl t m:=rfl
   rw[e];rcases Nat.lt_or_ge i m with h' | h'
   ·rw[if_neg (by rw[hn m h' (by omega)]; simp)];exact Nm h' hi (fun j h1 h2=>hn j h1 (by omega))
   ·have:i=m:=by omega
    subst this;rw[if_pos hi]
theorem z0B{pl:Nat->A6}{t:Int}{m:Nat}(h:P8 (U5 pl t) m=1):∃i,i<m/\U5 pl t i=true/\(∀j,j<m->U5 pl t j=decide (j=i))/\P7 pl t m=(i:Int):=by
 obtain⟨i,h1,h2⟩:=Mm (Nat.le_of_eq h.symm);have hu:∀j,j<m->U5 pl t j=true->j=i:=fun j hj hd=>by
  rcases Nat.lt_trichotomy i j with h' | h' | h'
  ·have:=Uk h' hj h2 hd; omega
  ·exact h'.symm
  ·have:=Uk h' h1 hd h2; omega
 refine⟨i,h1,h2,fun j hj=>?_,Nm h1 h2 (fun j hij hj=>?_)⟩
 ·rw[Bool.eq_iff_iff,dq];exact⟨hu j hj,fun e=>by rw[e]; exact h2⟩
 ·rw[<- Bool.not_eq_true];intro hd;have:=hu j hj hd;omega
theorem Pm(P:Nat->Bool)(m:Nat):∀n,P8 P (m+n)=P8 P m+P8 (fun i=>P (m+i)) n
 | 0=>rfl
 | n+1=>by
   rw[<- Nat.add_assoc,Nx,Nx,Pm P m n];split <;> omega
theorem s0J{P:Nat->Bool}{n:Nat}(h:∀i,i<n->P i=false):P8 P (n+1)=if P n=true then 1 else 0:=by
 have:∀m,m<=n->P8 P m=0:=by
  intro m
  induction m with
  | zero=>intro _; rfl
  | succ m ih=>intro hm; rw[Nx,h m (by omega),if_neg (by simp),ih (by omega)]
 rw[Nx,this n (Nat.le_refl _)]
theorem Qm{ni np:Nat}{x:Nat->C9}{y:Nat->L8}{d:A6}{nn:Nat}(hx:∀i,i<ni->1<=(x i).2.2.length/\inB ((x i).2.2.getD ((x i).2.2.length-1) 0) 0 ((nn:Int)-1)=true):∀n,n<=ni->(fN (P4 x) n (List.replicate nn 0)).length=nn/\∀t:Nat,t<nn->(fN (P4 x) n (List.replicate nn 0)).getD t 0=(P8 (U5 (fun j=>(K4 ni np x y).getD j d) t) (A3 x n):Nat)
 | 0,_=>⟨List.length_replicate,fun t ht=>by
   show(List.replicate nn (0:Int)).getD t 0=_;rw[gq,List.getElem?_replicate,if_pos ht]; rfl⟩
 | n+1,hn=>by
   obtain⟨h1,h2⟩:=Qm (np:=np) (y:=y) (d:=d) hx n (by omega);obtain⟨h3,h4⟩:=hx n (by omega);have h4:=D1.1 h4;have e:fN (P4 x) (n+1) (List.replicate nn 0)=P4 x n (fN (P4 x) n (List.replicate nn 0)):=rfl;rw[e];generalize fN (P4 x) n (List.replicate nn 0)=v at h1 h2;unfold P4 Sq;refine⟨by rw[List.length_set]; exact h1,fun t ht=>?_⟩;rw[Hw (by omega)];show _=((P8 _ (A3 x n+(x n).2.2.length):Nat):Int);rw[Pm];have hk:∀k,k < (x n).2.2.length->U5 (fun j=>(K4 ni np x y).getD j d) t (A3 x n+k)=((x n).2.2.getD k 0==(t:Int)&&(k:Int)==((x n).2.2.length:Int)-1):=fun k hk=>by
    unfold U5;show(((K4 ni np x y).getD (A3 x n+k) d).2.2.1==(t:Int)&&((K4 ni np x y).getD (A3 x n+k) d).2.2.2)=_;rw[Tk ni np x y d (by omega) hk]
   obtain⟨m,hm⟩:∃m,(x n).2.2.length=m+1:=⟨(x n).2.2.length-1,by omega⟩;have hm1:(x n).2.2.length-1=m:=by omega
   rw[hm1] at h4;rw[hm1,hm,s0J (fun i hi=>by rw[hk i (by omega),hm]; simp; omega),hk m (by omega),hm];have e1:((m:Int)==((m+1:Nat):Int)-1)=true:=by simp
   rw[e1,Bool.and_true];have e2:((x n).2.2.getD m 0==(t:Int))=decide (t=((x n).2.2.getD m 0).toNat):=by
    rw[Bool.eq_iff_iff,beq_iff_eq,dq];omega
   rw[e2];by_cases ht':t=((x n).2.2.getD m 0).toNat
   ·rw[if_pos ht',<- ht',h2 t ht,decide_eq_true rfl,if_pos rfl]; rfl
   ·rw[if_neg ht',h2 t ht,decide_eq_false ht',if_neg (by simp)]; omega
theorem Rm{ni np:Nat}{x:Nat->C9}{y:Nat->L8}{d:A6}{nn:Nat}(hx:∀i,i<ni->1<=(x i).2.2.length/\inB ((x i).2.2.getD ((x i).2.2.length-1) 0) 0 ((nn:Int)-1)=true)(hy:∀i,i<np->inB (y i).2.2 0 ((nn:Int)-1)=true):∀n,n<=np->(fN (K3 y) n (fN (P4 x) ni (List.replicate nn 0))).length=nn/\∀t:Nat,t<nn->(fN (K3 y) n (fN (P4 x) ni (List.replicate nn 0))).getD t 0=(P8 (U5 (fun j=>(K4 ni np x y).getD j d) t) (A3 x ni+n):Nat)
 | 0,_=>Qm hx ni (Nat.le_refl _)
 | n+1,hn=>by
   obtain⟨h1,h2⟩:=Rm (d:=d) hx hy n (by omega);have h4:=D1.1 (hy n (by omega));have e:fN (K3 y) (n+1) (fN (P4 x) ni (List.replicate nn 0))=K3 y n (fN (K3 y) n (fN (P4 x) ni (List.replicate nn 0))):=rfl;rw[e];generalize fN (K3 y) n (fN (P4 x) ni (List.replicate nn 0))=v at h1 h2;have hk:∀t:Nat,U5 (fun j=>(K4 ni np x y).getD j d) t (A3 x ni+n)=((y n).2.2==(t:Int)&&(y n).2.1==1):=fun t=>by
    unfold U5;show(((K4 ni np x y).getD (A3 x ni+n) d).2.2.1==(t:Int)&&((K4 ni np x y).getD (A3 x ni+n) d).2.2.2)=_;rw[Km ni np x y d (by omega)]
   have e2:∀t:Nat,((y n).2.2==(t:Int))=decide (t=(y n).2.2.toNat):=fun t=>by
    rw[Bool.eq_iff_iff,beq_iff_eq,dq];omega
   unfold K3;split
   ·rename_i hd;unfold Sq;refine⟨by rw[List.length_set]; exact h1,fun t ht=>?_⟩;rw[Hw (by omega),<- Nat.add_assoc,Nx,hk,e2,hd];by_cases ht':t=(y n).2.2.toNat
    ·rw[if_pos ht',<- ht',h2 t ht]; simp
    ·rw[if_neg ht',h2 t ht]; simp[ht']
   ·rename_i hd;refine⟨h1,fun t ht=>?_⟩;rw[h2 t ht,<- Nat.add_assoc,Nx,hk];simp[hd]
end Go.Proofs.Xd
end
section
namespace Go.Proofs.Xd
open Go Go.Proofs.Xv Go.Proofs.Xl
theorem Fv{σ ρ:Type}{F:(σ->Option ρ)->σ->Option ρ}{s:σ}{r:Option ρ}(k:Nat)(hk:k<=9223372036854775807)(h:∀n,itF F (n+k) s=r):lp F s=r:=by
 have e:big=(big-k)+k:=by have:=o0J hk; omega
 unfold lp;rw[e];exact h _
end Go.Proofs.Xd
end
section
namespace Go.Proofs.Xd
open Go Go.Proofs Go.Proofs.Xl
theorem Sm{σ ρ:Type}{F:(σ->Option ρ)->σ->Option ρ}{J:σ->Option ρ}(μ:σ->Nat)(I:σ->Prop)(c:σ->Bool)(nx:σ->σ)
  (hF:∀g s,I s->F g s=if c s=true then g (nx s) else J s) (hI:∀s,I s->c s=true->I (nx s)/\μ (nx s)<μ s) (s:σ) (hs:I s) (hm:μ s<=9223372036854775806):∃s',I s'/\c s'=false/\lp F s=J s':=by
 have key:∀(n:Nat) (s:σ),μ s<=n->I s->∃s',I s'/\c s'=false/\∀k,itF F (k+(n+1)) s=J s':=by
  intro n
  induction n with
  | zero =>
    intro s hn hs;cases hc:c s with
    | true=>have:=(hI s hs hc).2; omega
    | false=>exact⟨s,hs,hc,fun k=>by show F (itF F k) s=_; rw[hF _ _ hs,hc]; rfl⟩
  | succ n ih =>
    intro s hn hs;cases hc:c s with
    | true =>
      obtain⟨h1,h2⟩:=hI s hs hc;obtain⟨s',h3,h4,h5⟩:=ih (nx s) (by omega) h1;refine⟨s',h3,h4,fun k=>?_⟩;show F (itF F (k+(n+1))) s=_;rw[hF _ _ hs,hc,if_pos rfl];exact h5 k
    | false=>exact⟨s,hs,hc,fun k=>by show F (itF F (k+(n+1))) s=_; rw[hF _ _ hs,hc]; rfl⟩
 obtain⟨s',h1,h2,h3⟩:=key (μ s) s (Nat.le_refl _) hs;exact⟨s',h1,h2,Fv (μ s+1) (by omega) h3⟩
end Go.Proofs.Xd
end
section
namespace Go.Proofs.Xd
open Go.Proofs.Xl
theorem l0x{α:Type}(l:List α)(p q r:α->Bool)(h:∀a∈l,(p a).toNat=(q a).toNat+(r a).toNat):l.countP p=l.countP q+l.countP r:=by
 induction l with
 | nil=>rfl
 | cons a t ih =>
   have h1:=h a (by simp);have h2:=ih (fun b hb=>h b (by simp[hb]));rw[List.countP_cons,List.countP_cons,List.countP_cons];cases hp:p a <;> cases hq:q a <;> cases hr:r a <;> simp[hp,hq,hr] at h1 ⊢ <;> omega
section
variable (M N:Nat) (fr to:Nat->Nat) (lv:Nat->Bool)
def L0u(out:List Nat)(v:Nat):Nat:=(List.range M).countP fun i=>lv i&&to i==v&&!out.contains (fr i)
variable {M N fr to lv}
theorem p0G(p:Nat->Bool):(List.range M).countP p<=M:=by
 have:=List.countP_le_length (p:=p) (l:=List.range M)
 rwa [List.length_range] at this
structure L0z(M N:Nat)(fr to:Nat->Nat)(lv:Nat->Bool)(out:List Nat)(o:List Int):Prop where
 len:o.length=N
 un:∀v,v<N->v ∉ out->o.getD v 0=L0u M fr to lv out v
 li:∀v,v<N->v∈out->o.getD v 0<0
 lo:∀v,v<N -> -(1+(out.length:Int)*M)<=o.getD v 0
 hi:∀v,v<N->o.getD v 0<=M
def E0N(N:Nat)(out:List Nat):List Bool:=out.foldl (fun l v=>l.set v true) (List.replicate N false)
theorem Hx{o:List Bool}{i v:Nat}(x:Bool)(hi:i<o.length):(o.set i x).getD v false=if v=i then x else o.getD v false:=by
 rw[gq,gq,List.getElem?_set];by_cases h:i=v
 ·subst h; simp[hi]
 ·rw[if_neg h,if_neg (Ne.symm h)]
theorem Vk(out:List Nat)(o:List Bool)(h:∀v∈out,v<o.length)(w:Nat):(out.foldl (fun l v=>l.set v true) o).length=o.length/\(out.foldl (fun l v=>l.set v true) o).getD w false=(out.contains w||o.getD w false):=by
 induction out generalizing o with
 | nil=>simp
 | cons v r ih =>
   obtain⟨h1,h2⟩:=ih (o.set v true) (fun x hx=>by rw[List.length_set]; exact h x (by simp[hx]));rw[List.length_set] at h1;refine⟨h1,?_⟩;rw[List.foldl_cons,h2,Hx _ (h v (by simp)),List.contains_cons];by_cases e:w=v
   ·subst e; simp
   ·have:(w==v)=false:=by simp[e]
    rw[if_neg e,this,Bool.false_or]
end
end Go.Proofs.Xd
end
section
namespace Go.Proofs.YtphnknndgfgepaaGreatDoor
open Go Go.Proofs Go.Proofs.Xv Go.Proofs.Xl Go.Proofs.Xd
theorem X3(a b c:Int):w8 a b c=some (inB a b c):=rfl
theorem r97(a b c:Int):u97 a b c=some (inB a b c):=rfl
theorem H0c(a b c:Int):A0i a b c=some (!inB a b c):=by
 unfold A0i;rw[X3,gP ⟨rfl,trivial⟩,vS]
theorem u0q(xs:List Int)(b c:Int)(h:xs.length<=9223372036854775807):e0Y xs (b,c)=some (xs.any fun x=>!inB x b c):=by
 have h1:g0v xs (b,c)=_:=b0V h (fun i=>!inB (xs.getD i 0) b c) (fun g i hi=>h0t hi h (H0c _ _ _)) (fun g=>aE);have:=d0q h1;rw[P3 xs 0 (fun x=>!inB x b c)] at this;exact this
theorem Dz(xs:List Int)(b c:Int)(h:xs.length<=9223372036854775807):D6 xs b c=some (xs.all (inB · b c)):=by
 unfold D6;rw[u0q _ _ _ h,gP ⟨rfl,trivial⟩,vS,Dq]
theorem Wk(xs:List Int)(h:xs.length<=9223372036854775807)(h1:1<=xs.length):p0W xs=some (Kx xs):=by
 have key:=z0h h (fun i=>decide (xs.getD i 0<=xs.getD (i-1) 0)) (some false) (e:=some true) (F:=w0B xs) 1 h1 (fun g i hk hi=>by
  have e:((i:Int)-1).toNat=i-1:=by omega
  refine(d0U hi h ⟨oo,oo,oo,trivial⟩).trans ?_;rw[e]; rfl) (fun g=>aE)
 refine key.trans ?_;unfold Kx;have:((List.range xs.length).any fun i=>decide (1<=i)&&decide (xs.getD i 0<=xs.getD (i-1) 0))=(List.range xs.length).any fun i=>decide (0<i)&&decide (xs.getD i 0<=xs.getD (i-1) 0):=rfl;rw[this];cases(List.range xs.length).any fun i=>decide (0<i)&&decide (xs.getD i 0<=xs.getD (i-1) 0) <;> rfl
theorem Tm(xs:List Int)(h:xs.length<=9223372036854775807):V4 xs=some (V8 xs):=by
 unfold V4;have e:C5 xs=some (xs.length:Int):=rfl;have ed:∀a:Bool,(a=true->1<=xs.length)->(a=true/\True->(p0W xs).isSome=true):=fun a ha hc=>by rw[Wk xs h (ha hc.1)]; rfl
 rw[e,vS,X3,vS,Dz xs 0 100000 h,vS,gP ⟨rfl,rfl,fun _=>rfl,ed _ (fun hc=>by
  simp only[inB,ba,dq] at hc; omega),trivial⟩]
 congr 1;unfold V8;by_cases h1:1<=xs.length
 ·rw[Wk xs h h1,vS];congr 2;rw[Bool.eq_iff_iff];simp only[inB,ba,dq];omega
 ·have h2:decide (1<=xs.length)=false:=by simpa using h1
  have h3:inB (xs.length:Int) 1 4=false:=by
   rw[<- Bool.not_eq_true,D1]; omega
  rw[h2,h3]; rfl
theorem Um(xs:List Int)(h:xs.length<=9223372036854775807):q0w xs=some (V8 xs):=by
 have key:=I6 (n:=xs.length) h (fun i=>!inB (xs.getD i 0) 0 100000||decide (0<i)&&decide (xs.getD i 0<=xs.getD (i-1) 0)) (some false) (e:=n0d xs ()) (F:=v0O xs) (fun g i hi=>by
  have e:((i:Int)-1).toNat=i-1:=by omega
  have e2:decide ((0:Int) < (i:Int))=decide (0<i):=by rw[decide_eq_decide]; omega
  refine(d0U hi h ⟨oo,rfl,fun hc=>oo,fun hc=>⟨by have:=hc.1; simp at this; omega,by omega⟩,fun hc=>oo,trivial⟩).trans ?_;rw[e,r97,vS,e2]; rfl) (fun g=>aE)
 refine key.trans ?_;unfold V8 n0d;have e3:((List.range xs.length).any fun i=>!inB (xs.getD i 0) 0 100000||decide (0<i)&&decide (xs.getD i 0<=xs.getD (i-1) 0))=!(xs.all (inB · 0 100000)&&Kx xs):=by
  rw[<- Dq,<- P3 xs 0 (fun x=>!inB x 0 100000),Kx,<- Bool.not_or,Bool.not_not];rw[Bool.eq_iff_iff,Bool.or_eq_true,List.any_eq_true,List.any_eq_true,List.any_eq_true];constructor
  ·rintro⟨i,h1,h2⟩;rcases Bool.or_eq_true _ _ ▸ h2 with h3 | h3
   ·exact .inl ⟨i,h1,h3⟩
   ·exact .inr ⟨i,h1,h3⟩
  ·rintro(⟨i,h1,h2⟩ | ⟨i,h1,h2⟩)
   ·exact⟨i,h1,by rw[h2]; rfl⟩
   ·exact⟨i,h1,by rw[h2,Bool.or_true]⟩
 rw[e3];cases hA:(xs.all (inB · 0 100000)&&Kx xs) with
 | false=>rw[if_pos (by rfl),Bool.and_assoc,hA,Bool.and_false]
 | true =>
   rw[if_neg (by simp),Bool.and_assoc,hA,Bool.and_true];refine congrArg some ?_;rw[Bool.eq_iff_iff];simp only[ba,dq];omega
theorem G0O(t:D2)(hw:wf y140 t):y0B t=some (L9 t):=by
 obtain⟨⟨h1,_⟩,⟨h2,_⟩,h3,_⟩:=hw;unfold y0B;have hb:(V8 t.1&&V8 t.2.1)=true/\True->l3 ((t.1.length:Int)*(t.2.1.length:Int)):=fun hc=>by
  have hc:=hc.1;rw[ba] at hc;obtain⟨a1,a2⟩:=Tz hc.1;obtain⟨b1,b2⟩:=Tz hc.2;have c2:t.1.length*t.2.1.length<=4*4:=Nat.mul_le_mul a2 b2;have e:(t.1.length:Int)*(t.2.1.length:Int)=((t.1.length*t.2.1.length:Nat):Int):=by simp
  rw[e];exact oo
 rw[Tm _ h1,Tm _ h2,Dz _ _ _ h3,vS,vS,vS,gP ⟨rfl,fun _=>rfl,hb,fun _=>rfl,trivial⟩];congr 1;unfold L9;congr 2;rw[Bool.eq_iff_iff];simp only[beq_iff_eq,dq];constructor
 ·intro h; exact_mod_cast h
 ·intro h; exact_mod_cast h
theorem G0Q(t:D2)(hw:wf y140 t):A0d t=some (L9 t):=by
 obtain⟨⟨h1,_⟩,⟨h2,_⟩,h3,_⟩:=hw;unfold A0d;have hb:(!V8 t.1||!V8 t.2.1)=false/\True->l3 ((t.1.length:Int)*(t.2.1.length:Int)):=fun hc=>by
  have hc:=hc.1;simp only[Bool.or_eq_false_iff,Bool.not_eq_false'] at hc;obtain⟨a1,a2⟩:=Tz hc.1;obtain⟨b1,b2⟩:=Tz hc.2;have c2:t.1.length*t.2.1.length<=4*4:=Nat.mul_le_mul a2 b2;have e:(t.1.length:Int)*(t.2.1.length:Int)=((t.1.length*t.2.1.length:Nat):Int):=by simp
  rw[e];exact oo
 rw[Um _ h1,Um _ h2,vS,vS,gP ⟨rfl,fun _=>rfl,hb,trivial⟩];have key:=I6 (n:=t.2.2.length) h3 (fun i=>!inB (t.2.2.getD i 0) (-1000000) 1000000) (some false) (e:=some true) (F:=v0S t) (fun g i hi=>d0U hi h3 ⟨oo,rfl,trivial⟩) (fun g=>aE);rw[key,P3 t.2.2 0 (fun x=>!inB x (-1000000) 1000000)];have e:((t.2.2.length:Int) != (t.1.length:Int)*(t.2.1.length:Int))=!decide (t.2.2.length=t.1.length*t.2.1.length):=by
  rw[Bool.eq_iff_iff];simp only[bne_iff_ne,Bool.not_eq_true',decide_eq_false_iff_not,ne_eq];constructor
  ·intro h k; exact h (by exact_mod_cast k)
  ·intro h k; exact h (by exact_mod_cast k)
 rw[e];unfold L9;rw[<- Dq];cases V8 t.1 <;> cases V8 t.2.1 <;> cases decide (t.2.2.length=t.1.length*t.2.1.length) <;> cases(t.2.2.any fun x=>!inB x (-1000000) 1000000) <;> rfl
end Go.Proofs.YtphnknndgfgepaaGreatDoor
end
section
namespace Go.Proofs.YtphnknndgfgepaaGreatDoor
open Go Go.Proofs Go.Proofs.Sv Go.Proofs.Xv Go.Proofs.Xl Go.Proofs.Xd
theorem Xk(s:ByteArray)(h:s.size<=9223372036854775807):U3 s=some (nmB s):=by
 have key:=I6 (n:=s.size) h (fun i=>!chB (B8 s i) i) (some false) (e:=n0o s ()) (F:=w0K s) (fun g i hi=>by
  refine(z0T hi h ⟨oo,fun _=>oo,trivial⟩ ⟨oo,fun _=>oo,trivial⟩).trans ?_;have e2:decide ((0:Int) < (i:Int))=decide (0<i):=by rw[decide_eq_decide]; omega
  have e3:((i:Int)).toNat=i:=rfl;rw[e2,e3];unfold chB Aq Rz;rw[Bool.not_or]) (fun g=>aE)
 refine key.trans ?_;unfold nmB n0o;rw[Zg];cases(List.range s.size).any fun i=>!chB (B8 s i) i
 ·rfl
 ·rfl
theorem Vm(s:ByteArray)(h:s.size<=9223372036854775807):R2 s=some (nmB s):=by
 unfold R2;have t1:w0I s ⟨#[97,98,99,100,101,102,103,104,105,106,107,108,109,110,111,112,113,114,115,116,117,118,119,120,121,122,48,49,50,51,52,53,54,55,56,57]⟩=some ⟨(Lib.trimS s.data.toList low36).toArray⟩:=if_pos ⟨by decide,by decide⟩;have t2:∀c,D0v ⟨#[97,98,99,100,101,102,103,104,105,106,107,108,109,110,111,112,113,114,115,116,117,118,119,120,121,122]⟩ c=some (Lib.indexByte low26 c.toNat.toUInt8):=fun _=>rfl;rw[t1,t2,X3,vS,vS,vS,gP ⟨rfl,fun _=>rfl,fun hc=>⟨by decide,by
  have:=hc.1;rw[ba,D1] at this;omega⟩,fun _=>rfl,trivial⟩,lE]
 refine congrArg some ?_;show(inB (s.size:Int) 1 8&&decide ((⟨(Lib.trimS s.data.toList low36).toArray⟩:ByteArray)=⟨#[]⟩)&&decide (0<=Lib.indexByte low26 (B8 s (Int.toNat 0)).toNat.toUInt8))=nmB s;by_cases hb:1<=s.size/\s.size<=8
 ·rw[u0F s hb.1 hb.2];have e1:inB (s.size:Int) 1 8=true:=by rw[D1]; omega
  have e2:decide ((⟨(Lib.trimS s.data.toList low36).toArray⟩:ByteArray)=⟨#[]⟩)=(Lib.trimS s.data.toList low36==[]):=by
   rw[Bool.eq_iff_iff,dq,beq_iff_eq];constructor
   ·intro h;injection h with h;have:=congrArg Array.toList h;simpa using this
   ·intro h; rw[h]
  rw[e1,e2,Bool.true_and];rfl
 ·have e1:inB (s.size:Int) 1 8=false:=by rw[<- Bool.not_eq_true,D1]; omega
  have e2:nmB s=false:=by
   rw[<- Bool.not_eq_true];intro hc;simp only[nmB,ba,dq] at hc;omega
  rw[e1,e2]; rfl
theorem G0U(xs:List ByteArray)(x:ByteArray)(h:xs.length<=9223372036854775807):B0x xs x=some (xs.any fun y=>decide (x=y)):=by
 have h1:D0p xs x=_:=b0V h (fun i=>decide (x=xs.getD i (d6 .str))) (fun g i hi=>by
  refine(if_pos (by simpa using hi)).trans ?_;rw[gP ⟨oo,trivial⟩,gP ⟨oo,trivial⟩];rfl) (fun g=>aE)
 have:=d0q h1;rw[P3 xs (d6 .str) (fun y=>decide (x=y))] at this;exact this
theorem Mw(xs:List ByteArray)(hw:wf (.sl .str) xs):M6 xs=some (C2 xs.length fun i=>xs.getD i (d6 .str)):=by
 have h:=hw.1;have key:=I6 (n:=xs.length) h (fun i=>!nmB (xs.getD i (d6 .str))||M9 (fun i=>xs.getD i (d6 .str)) i) (some false) (e:=some true) (F:=w0k xs) (fun g i hi=>by
  have hs:=U6 (d:=d6 .str) hi hw;have hl:(xs.take i).length<=9223372036854775807:=by rw[List.length_take]; omega
  have e1:=Vm _ hs;have e2:=G0U (xs.take i) (xs.getD i (d6 .str)) hl;rw[t0R xs (d6 .str) i hi] at e2;have e3:((i:Int)).toNat=i:=rfl;refine(if_pos (by simpa using hi)).trans ?_;rw[e3,e1,e2,vS,vS,gP ⟨oo,trivial⟩,gP ⟨rfl,fun _=>⟨by omega,by omega,by omega⟩,fun _=>rfl,trivial⟩,gP ⟨oo,trivial⟩]) (fun g=>aE)
 refine key.trans ?_;unfold C2;cases(List.range xs.length).any fun i=>!nmB (xs.getD i (d6 .str))||M9 (fun i=>xs.getD i (d6 .str)) i <;> rfl
theorem Yk(xs:List ByteArray)(hw:wf (.sl .str) xs):V6 xs=some (C2 xs.length fun i=>xs.getD i (d6 .str)):=by
 have h:=hw.1;have key:=I6 (n:=xs.length) h (fun i=>!nmB (xs.getD i (d6 .str))||M9 (fun i=>xs.getD i (d6 .str)) i) (some false) (e:=some true) (F:=w0W xs) (fun g i hi=>by
  have hs:=U6 (d:=d6 .str) hi hw;have e1:=Xk _ hs;have e3:((i:Int)).toNat=i:=rfl;have inner:=I6 (n:=i) (by omega) (fun k=>decide (xs.getD k (d6 .str)=xs.getD i (d6 .str))) (some false) (e:=g ((i:Int)+1)) (F:=w0V xs (i:Int) g) (fun g3 k hk=>by
   refine(d0U hk (by omega) ⟨oo,oo,trivial⟩).trans ?_;rfl) (fun g3=>by
   refine aE.trans ?_;unfold q0R;exact gP ⟨oo,trivial⟩)
  refine(if_pos (by simpa using hi)).trans ?_;rw[e3,e1,vS,gP ⟨oo,rfl,trivial⟩,inner];unfold M9;cases nmB (xs.getD i (d6 .str)) <;> cases(List.range i).any fun k=>decide (xs.getD k (d6 .str)=xs.getD i (d6 .str)) <;> rfl) (fun g=>aE)
 refine key.trans ?_;unfold C2;cases(List.range xs.length).any fun i=>!nmB (xs.getD i (d6 .str))||M9 (fun i=>xs.getD i (d6 .str)) i <;> rfl
theorem Wm(xs:List Int)(h:xs.length<=9223372036854775807)(h1:1<=xs.length):A0b xs=some (Rq xs):=by
 unfold A0b;rw[if_neg (by simp; omega)];unfold q0y;rw[gP ⟨oo,trivial⟩];have key:=lF (n:=xs.length-1) (by omega) (fun i (m:Int)=>(m,((i+1:Nat):Int))) (fun i m=>min m (xs.getD (i+1) 0)) (fun _ _=>True) (J:=fun m=>some m) (F:=q0x xs) (fun g i s hi _=>by
  refine(if_pos (by simp; omega)).trans ?_;rw[gP ⟨oo,trivial⟩,gP ⟨oo,trivial⟩];rfl) (fun _ _ _ _=>trivial) (fun g s _=>by
  have e:xs.length-1+1=xs.length:=by omega
  show q0x xs g (s,((xs.length-1+1:Nat):Int))=some s;rw[e];exact aE) (xs.getD 0 0) trivial
 exact key
theorem G0P(t:D2)(p:Bool)(hw:wf y140 t):A0c t p=some (!L9 t||p&&decide (Rq t.2.2<0)):=by
 unfold A0c;have hv:p=true/\(!L9 t)=false/\True->(A0b t.2.2).isSome=true:=fun hc=>by
  have h2:L9 t=true:=by simpa using hc.2.1
  rw[Wm _ hw.2.2.1 (Zv h2).2.2.2.2.2.1]; rfl
 rw[G0O t hw,vS,gP ⟨rfl,hv,trivial⟩,lE];refine congrArg some ?_;cases hT:L9 t with
 | false=>rfl
 | true=>rw[Wm _ hw.2.2.1 (Zv hT).2.2.2.2.2.1,vS]
theorem Zk(l:List D2)(p:Bool)(hw:wf (.sl y140) l):N6 l p=some (I4 l p):=by
 have h:=hw.1;have h1:g0q l p=_:=b0V h (fun i=>!L9 (l.getD i (d6 y140))||p&&decide (Rq (l.getD i (d6 y140)).2.2<0)) (fun g i hi=>h0t hi h (G0P _ _ (U6 hi hw))) (fun g=>aE);have h2:e0V l p=_:=d0q h1;rw[P3 l (d6 y140) (fun t=>!L9 t||p&&decide (Rq t.2.2<0))] at h2;unfold N6;rw[h2,vS,gP ⟨fun _=>rfl,trivial⟩];refine congrArg some ?_;unfold I4;have e:((l.length:Int)==2)=decide (l.length=2):=by
  rw[Bool.eq_iff_iff,beq_iff_eq,dq]; omega
 rw[e,<- Dq];congr 3;funext t;rw[Bool.not_and,Bool.not_not]
theorem Xm(xs:List Int):∀n,(fN (fun i (s:Int×Int)=>(min s.1 (xs.getD (i+1) 0),max s.2 (xs.getD (i+1) 0))) n (xs.getD 0 0,xs.getD 0 0)).1=fN (fun i m=>min m (xs.getD (i+1) 0)) n (xs.getD 0 0)
 | 0=>rfl
 | n+1=>by rw[fN,fN,Xm xs n]
theorem G0S(t:D2)(hw:wf y140 t):∃l,B0v t=some (if L9 t=true then((Rq t.2.2,l),0) else((0,0),1)):=by
 unfold B0v;rw[G0Q t hw,vS,gP ⟨rfl,trivial⟩];cases hT:L9 t with
 | false=>exact⟨0,rfl⟩
 | true =>
   have h1:=(Zv hT).2.2.2.2.2.1;have h:=hw.2.2.1;have key:=lF (n:=t.2.2.length-1) (by omega) (fun i (s:Int×Int)=>(((i+1:Nat):Int),s.1,s.2)) (fun i s=>(min s.1 (t.2.2.getD (i+1) 0),max s.2 (t.2.2.getD (i+1) 0))) (fun _ _=>True) (J:=fun s=>some ((s.1,s.2),(0:Int))) (F:=q0z t) (fun g i s hi _=>by
    refine(if_pos (by simp; omega)).trans ?_;rw[gP ⟨oo,trivial⟩,gP ⟨oo,trivial⟩,gP ⟨oo,trivial⟩];rfl) (fun _ _ _ _=>trivial) (fun g s _=>by
    have e:t.2.2.length-1+1=t.2.2.length:=by omega
    show q0z t g (((t.2.2.length-1+1:Nat):Int),s.1,s.2)=_;rw[e];exact aE) (t.2.2.getD 0 0,t.2.2.getD 0 0) trivial
   rw[if_neg (by simp),gP ⟨oo,oo,trivial⟩];rw[Xm] at key;exact⟨_,key⟩
theorem Nw(l:List D2)(p:Bool)(hw:wf (.sl y140) l):M7 l p=some (I4 l p):=by
 unfold M7;have e:((l.length:Int) != 2)=!decide (l.length=2):=by
  rw[Bool.eq_iff_iff]; simp; omega
 rw[e];unfold I4;by_cases h2:l.length=2
 ·have key:=I6 (n:=2) (by decide) (fun i=>!L9 (l.getD i (d6 y140))||p&&decide (Rq (l.getD i (d6 y140)).2.2<0)) (some false) (e:=some true) (F:=q0B p l) (fun g i hi=>by
   obtain⟨m,hm⟩:=G0S (l.getD i (d6 y140)) (U6 (by omega) hw);have e3:((i:Int)).toNat=i:=rfl;refine(if_pos (by simp; omega)).trans ?_;rw[e3,hm,vS,gP ⟨oo,rfl,trivial⟩,lE,gP ⟨oo,trivial⟩];cases L9 (l.getD i (d6 y140)) <;> rfl) (fun g=>by
   unfold q0B;exact if_neg (by decide))
  rw[decide_eq_true h2,if_neg (by simp)];refine key.trans ?_;have:=P3 l (d6 y140) (fun t=>!L9 t||p&&decide (Rq t.2.2<0));rw[h2] at this;rw[this,<- Dq,Bool.true_and];have e5:(fun t:D2=>!(L9 t&&!(p&&decide (Rq t.2.2<0))))=fun t=>!L9 t||p&&decide (Rq t.2.2<0):=by
   funext t; rw[Bool.not_and,Bool.not_not]
  rw[e5];cases l.any fun t=>!L9 t||p&&decide (Rq t.2.2<0) <;> rfl
 ·rw[decide_eq_false h2]; rfl
abbrev q9(c:m4)(i:Nat):I2:=c.2.2.1.getD i (d6 y217)
abbrev m5(c:m4)(i:Nat):A5:=c.2.2.2.1.getD i (d6 y143)
theorem Ay(c:m4)(hw:wf y163 c):P0 c=some ((c.2.2.1.length:Int)-1):=by
 have h:=hw.2.2.1.1;have e:q0A c.2.2.1=some (c.2.2.1.length:Int):=rfl;unfold P0;rw[e,vS,gP ⟨rfl,oo,trivial⟩,lE]
theorem Ym(c:m4)(hw:wf y163 c)(x:Int):t0G c x=some (inB x 0 ((c.2.2.1.length:Int)-1-1)):=by
 have h:=hw.2.2.1.1;unfold t0G;rw[Ay c hw,vS,X3,vS,gP ⟨rfl,oo,rfl,trivial⟩]
theorem G0R(c:m4)(hw:wf y163 c):A0e c=some (Sx c.2.2.1.length (q9 c)):=by
 have h:=hw.2.2.1.1;have h1:g0r c.2.2.1=_:=b0V h (fun i=>(q9 c i).2.2.2) (fun g i hi=>h0t hi h rfl) (fun g=>aE);unfold A0e;rw[h1,vS,gP ⟨rfl,trivial⟩,lE];rfl
theorem Cy(c:m4)(hw:wf y163 c)(k:Int):I8 c k=some (B6 c.2.2.2.1.length (m5 c) k):=by
 have h:=hw.2.2.2.1.1;have h1:g0s c.2.2.2.1 k=_:=b0V h (fun i=>(m5 c i).1==k) (fun g i hi=>h0t hi h rfl) (fun g=>aE);have h2:e0W c.2.2.2.1 k=_:=d0q h1;unfold I8;rw[h2,vS,gP ⟨rfl,trivial⟩];rfl
theorem G0T(c:m4)(a:A5)(hc:wf y163 c)(ha:wf y143 a):v0Z c a=some (Lx c.2.2.1.length (q9 c) a):=by
 obtain⟨_,_,_,_,hd,hs⟩:=ha;have ek:B0u a.1=some (a.1==4||a.1==5):=rfl;have hg:inB a.2.1 0 ((c.2.2.1.length:Int)-1-1)=true->ix a.2.1 c.2.2.1.length:=fun h=>by
  rw[D1] at h; exact oo
 unfold v0Z;rw[ek,Zk _ _ hd,Zk _ _ hd,Zk _ _ hs,G0R c hc,Ym c hc,Ym c hc,Ay c hc]
 repeat rw[vS]
 rw[gP ⟨rfl,trivial⟩];unfold Lx;by_cases k45:a.1=4∨a.1=5
 ·have e1:(a.1==4||a.1==5)=true:=by simpa using k45
  rw[if_pos e1,if_pos k45,gP ⟨fun _=>rfl,fun _=>rfl,fun _=>rfl,trivial⟩,lE]
 ·have e1:(a.1==4||a.1==5)=false:=by
   rw[<- Bool.not_eq_true]; simpa using k45
  rw[e1,if_neg (by simp),if_neg k45,gP ⟨rfl,fun _=>rfl,fun _=>rfl,fun _=>rfl,trivial⟩,lE];by_cases hgo:I4 a.2.2.2.2.1 true=true/\I4 a.2.2.2.2.2 true=true/\a.2.2.1=(c.2.2.1.length:Int)-1/\inB a.2.1 0 ((c.2.2.1.length:Int)-1-1)=true
  ·obtain⟨g1,g2,g3,g4⟩:=hgo;have e3:(I4 a.2.2.2.2.1 true&&I4 a.2.2.2.2.2 true&&a.2.2.1==(c.2.2.1.length:Int)-1&&inB a.2.1 0 ((c.2.2.1.length:Int)-1-1))=true:=by
    rw[g1,g2,g4,g3]; simp
   have e2:(!I4 a.2.2.2.2.1 true||!I4 a.2.2.2.2.2 true||a.2.2.1 != (c.2.2.1.length:Int)-1||!inB a.2.1 0 ((c.2.2.1.length:Int)-1-1))=false:=by
    rw[g1,g2,g4,g3]; simp
   rw[e3,Bool.true_and];refine(if_neg (by rw[e2]; simp)).trans ?_;by_cases k1:a.1=1
   ·rw[if_pos (beq_iff_eq.2 k1),if_pos k1,X3,gP ⟨hg g4,fun _=>rfl,trivial⟩];rfl
   ·rw[if_neg (by simpa using k1),if_neg k1];have j:∀b,k0g c a b=some (if b=true then(q9 c a.2.1.toNat).2.2.2&&a.2.2.2.1==0 else false):=fun b=>by
     unfold k0g;cases b with
     | false=>rfl
     | true=>rw[if_pos rfl,if_pos rfl,gP ⟨hg g4,trivial⟩]
    by_cases k2:a.1=2
    ·rw[if_pos (beq_iff_eq.2 k2),if_pos (.inl k2),j,beq_iff_eq.2 k2]; rfl
    ·rw[if_neg (by simpa using k2),j];by_cases k3:a.1=3
     ·rw[beq_iff_eq.2 k3,if_pos rfl,if_pos (.inr k3)]
     ·rw[beq_eq_false_iff_ne.2 k3,if_neg (by simp),if_neg (by omega)]
  ·have e2:(!I4 a.2.2.2.2.1 true||!I4 a.2.2.2.2.2 true||a.2.2.1 != (c.2.2.1.length:Int)-1||!inB a.2.1 0 ((c.2.2.1.length:Int)-1-1))=true:=by
    rw[<- Bool.not_eq_false];intro h;simp only[Bool.or_eq_false_iff,Bool.not_eq_false',bne_eq_false_iff_eq] at h;exact hgo ⟨h.1.1.1,h.1.1.2,h.1.2,h.2⟩
   have e3:(I4 a.2.2.2.2.1 true&&I4 a.2.2.2.2.2 true&&a.2.2.1==(c.2.2.1.length:Int)-1&&inB a.2.1 0 ((c.2.2.1.length:Int)-1-1))=false:=by
    rw[<- Bool.not_eq_true];intro h;simp only[ba,beq_iff_eq] at h;exact hgo ⟨h.1.1.1,h.1.1.2,h.1.2,h.2⟩
   rw[e3,Bool.false_and];exact if_pos e2
theorem G0Z(c:m4)(a:A5)(hc:wf y163 c)(ha:wf y143 a):A0f c a=some (D3 c.2.2.1.length (q9 c) a):=by
 obtain⟨_,_,_,_,hd,hs⟩:=ha;have h:=hc.2.2.1.1;unfold A0f;rw[gP ⟨oo,trivial⟩,r97,r97]
 repeat rw[vS]
 rw[gP ⟨oo,rfl,fun _=>rfl,trivial⟩];unfold D3;by_cases hgo:inB a.2.1 0 ((c.2.2.1.length:Int)-1-1)=true/\inB a.2.2.1 0 ((c.2.2.1.length:Int)-1)=true
 ·obtain⟨g1,g2⟩:=hgo;have b1:=D1.1 g1;have b2:=D1.1 g2;rw[g1,g2,if_neg (by simp),gP ⟨oo,trivial⟩,lE,Bool.true_and,Bool.true_and];by_cases k1:a.1=1
  ·rw[if_pos (beq_iff_eq.2 k1),if_pos k1,r97,Nw _ _ hd,Nw _ _ hs,gP ⟨fun _=>rfl,fun _=>rfl,fun _=>rfl,trivial⟩];rfl
  ·rw[if_neg (by simpa using k1),if_neg k1];have j1:∀b,g0L (q9 c a.2.1.toNat) a c b=some (if b=true then(q9 c a.2.1.toNat).2.2.2&&decide (a.2.2.1 < (c.2.2.1.length:Int)-1)&&!(q9 c a.2.2.1.toNat).2.2.2&&a.2.2.2.1==0&&I4 a.2.2.2.2.1 false&&(a.2.2.2.2.2.length:Int)==0 else false):=fun b=>by
    unfold g0L;cases b with
    | false=>rfl
    | true =>
      rw[if_pos rfl,if_pos rfl,Nw _ _ hd,gP ⟨fun _=>oo,fun _=>rfl,trivial⟩];rfl
   have j0:∀b,k0j (q9 c a.2.1.toNat) a c b=some (if b=true then(q9 c a.2.1.toNat).2.2.2&&a.2.2.1==(c.2.2.1.length:Int)-1&&a.2.2.2.1==0&&I4 a.2.2.2.2.1 true&&I4 a.2.2.2.2.2 true else if a.1=4∨a.1=5 then(q9 c a.2.1.toNat).2.2.2&&decide (a.2.2.1 < (c.2.2.1.length:Int)-1)&&!(q9 c a.2.2.1.toNat).2.2.2&&a.2.2.2.1==0&&I4 a.2.2.2.2.1 false&&(a.2.2.2.2.2.length:Int)==0 else false):=fun b=>by
    unfold k0j;cases b with
    | true =>
      rw[if_pos rfl,if_pos rfl,Nw _ _ hd,Nw _ _ hs,gP ⟨fun _=>rfl,fun _=>rfl,trivial⟩];rfl
    | false =>
      show(if(a.1==4)=true then g0L (q9 c a.2.1.toNat) a c (a.1==4) else g0L (q9 c a.2.1.toNat) a c (a.1==5))=some (if a.1=4∨a.1=5 then _ else false);by_cases k4:a.1=4
      ·rw[if_pos (beq_iff_eq.2 k4),j1,beq_iff_eq.2 k4,if_pos rfl,if_pos (.inl k4)]
      ·rw[if_neg (by simpa using k4),j1];by_cases k5:a.1=5
       ·rw[beq_iff_eq.2 k5,if_pos rfl,if_pos (.inr k5)]
       ·rw[beq_eq_false_iff_ne.2 k5,if_neg (by simp),if_neg (by omega)]
   by_cases k2:a.1=2
   ·rw[if_pos (beq_iff_eq.2 k2),if_pos (.inl k2)];refine(j0 _).trans ?_;rw[beq_iff_eq.2 k2]; rfl
   ·rw[if_neg (by simpa using k2)];refine(j0 _).trans ?_;by_cases k3:a.1=3
    ·rw[beq_iff_eq.2 k3,if_pos rfl,if_pos (.inr k3)]
    ·rw[beq_eq_false_iff_ne.2 k3,if_neg (by simp),if_neg (by omega:¬(a.1=2∨a.1=3))]
 ·have e2:(!inB a.2.1 0 ((c.2.2.1.length:Int)-1-1)||!inB a.2.2.1 0 ((c.2.2.1.length:Int)-1))=true:=by
   rw[<- Bool.not_eq_false];intro h;simp only[Bool.or_eq_false_iff,Bool.not_eq_false'] at h;exact hgo h
  have e3:(inB a.2.1 0 ((c.2.2.1.length:Int)-1-1)&&inB a.2.2.1 0 ((c.2.2.1.length:Int)-1))=false:=by
   rw[<- Bool.not_eq_true];intro h;rw[ba] at h;exact hgo h
  rw[e3,Bool.false_and];exact if_pos e2
end Go.Proofs.YtphnknndgfgepaaGreatDoor
end
