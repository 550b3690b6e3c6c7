/- The links of a block. Plain facts. -/
import Derived.Test.YtphnknndgfgepaaGreatDoorWB
import Derived.Test.YtphnknndgfgepaaGreatDoorF77d
section
namespace Go.Proofs.Xd
open Go Go.Proofs Go.Proofs.Xl
abbrev a0D:=Int×Int×Int×Int
def b0o(k s:Int):List (Int×Int):=if(k==2)=true then [(0,0),(0,1)] else if(k==3)=true then [(1,0),(1,1)] else if(k != 1)=true then [] else if(s==1)=true then [(0,0),(1,1)] else if(s==2)=true then [(0,1),(1,0)] else [(0,0),(0,1),(1,0),(1,1)]
theorem g0S(k s:Int):(b0o k s).length<=4/\∀t∈b0o k s,0<=t.1/\t.1<=1/\0<=t.2/\t.2<=1:=by
 unfold b0o;split
 ·exact⟨by decide,by decide⟩
 split
 ·exact⟨by decide,by decide⟩
 split
 ·exact⟨by decide,by decide⟩
 split
 ·exact⟨by decide,by decide⟩
 split
 ·exact⟨by decide,by decide⟩
 ·exact⟨by decide,by decide⟩
def c0b(f a b x:Int)(tr:List (Int×Int))(k:Nat)(s:List a0D):List a0D:=s++[(2*(f+a)+(tr.getD k (0,0)).1,2*(f+b)+(tr.getD k (0,0)).2,1,x)]
theorem j0c(f a b x:Int)(tr:List (Int×Int))(s:List a0D):∀k,(fN (c0b f a b x tr) k s).length=s.length+k
 | 0=>rfl
 | k+1=>by
   have:=j0c f a b x tr s k;show(c0b f a b x tr k (fN (c0b f a b x tr) k s)).length=_;generalize fN (c0b f a b x tr) k s=z at this;unfold c0b;rw[List.length_append,this]; rfl
def d0w(f:Int)(arcs:Nat->e0I)(j:Nat)(s:List a0D):List a0D:=fN (c0b f (arcs j).2.1 (arcs j).2.2.1 (j:Int) (b0o (arcs j).1 (arcs j).2.2.2.1)) (b0o (arcs j).1 (arcs j).2.2.2.1).length s
theorem h0K(f:Int)(arcs:Nat->e0I)(j:Nat)(s:List a0D):(d0w f arcs j s).length<=s.length+4:=by
 unfold d0w;rw[j0c];have:=(g0S (arcs j).1 (arcs j).2.2.2.1).1;omega
def a0P(f:Int)(arcs:Nat->e0I)(m:Nat):List a0D:=fN (d0w f arcs) m []
theorem b0w(f:Int)(arcs:Nat->e0I):∀m,(a0P f arcs m).length<=4*m
 | 0=>Nat.le_refl _
 | m+1=>by
   have h1:=b0w f arcs m;have h2:=h0K f arcs m (a0P f arcs m);show(d0w f arcs m (a0P f arcs m)).length<=_;omega
def c0g(nets:Nat->Nat)(arcs:Nat->Nat->e0I)(ms:Nat->Nat)(i:Nat)(s:Int×List a0D):Int×List a0D:=(s.1+(nets i:Int),s.2++a0P s.1 (arcs i) (ms i))
theorem l0w{nets:Nat->Nat}{arcs:Nat->Nat->e0I}{ms:Nat->Nat}{n:Nat}(h:∀i,i<n->nets i<=5/\ms i<=8):∀m,m<=n->0<=(fN (c0g nets arcs ms) m (0,[])).1/\(fN (c0g nets arcs ms) m (0,[])).1<=5*(m:Int)/\(fN (c0g nets arcs ms) m (0,[])).2.length<=32*m
 | 0,_=>⟨Int.le_refl _,Int.le_refl _,Nat.le_refl _⟩
 | m+1,hm=>by
   obtain⟨h1,h2,h3⟩:=l0w h m (by omega);obtain⟨h4,h5⟩:=h m (by omega);show 0<=(c0g nets arcs ms m (fN (c0g nets arcs ms) m (0,[]))).1/\(c0g nets arcs ms m (fN (c0g nets arcs ms) m (0,[]))).1<=_/\(c0g nets arcs ms m (fN (c0g nets arcs ms) m (0,[]))).2.length<=_;generalize fN (c0g nets arcs ms) m (0,[])=z at h1 h2 h3;unfold c0g;have:=b0w z.1 (arcs m) (ms m);refine⟨by show 0<=z.1+(nets m:Int); omega,by show z.1+(nets m:Int)<=_; omega,?_⟩;show(z.2++a0P z.1 (arcs m) (ms m)).length<=_;rw[List.length_append]; omega
def e0v(pl:Nat->a0p)(i:Nat)(s:List (List Int)×List Int):List (List Int)×List Int:=if(pl i).2.2.2=true then(s.1,s.2.set (pl i).2.2.1.toNat (i:Int)) else(s.1.set (pl i).2.2.1.toNat (s.1.getD (pl i).2.2.1.toNat []++[(i:Int)]),s.2)
def l0G(pl:Nat->a0p)(t:Int)(m:Nat):Int:=fN (fun i s=>if((pl i).2.2.1==t&&(pl i).2.2.2)=true then(i:Int) else s) m 0
theorem m0T(pl:Nat->a0p)(t:Int):∀m,0<=l0G pl t m/\l0G pl t m<=m
 | 0=>⟨Int.le_refl _,Int.le_refl _⟩
 | m+1=>by
   have:=m0T pl t m;have e:l0G pl t (m+1)=if((pl m).2.2.1==t&&(pl m).2.2.2)=true then(m:Int) else l0G pl t m:=rfl
   rw[e];split <;> omega
theorem i0L(pl:Nat->a0p)(t:Int)(m:Nat):fN (c0J pl t) (m+1) []=if((pl m).2.2.1==t&&!(pl m).2.2.2)=true then fN (c0J pl t) m []++[(m:Int)] else fN (c0J pl t) m []:=rfl
theorem f0o{α:Type}{l:List α}{i j:Nat}{x d:α}(hi:i<l.length):(l.set i x).getD j d=if j=i then x else l.getD j d:=by
 by_cases h:j=i
 ·subst h; simp[hi]
 ·rw[if_neg h]; simp[List.getElem?_set_ne (Ne.symm h)]
theorem l0z(pl:Nat->a0p)(n:Nat):∀m,(∀i,i<m->inB (pl i).2.2.1 0 ((n:Int)-1)=true)->(fN (e0v pl) m (List.replicate n [],List.replicate n 0)).1.length=n/\(fN (e0v pl) m (List.replicate n [],List.replicate n 0)).2.length=n /\
  ∀k:Nat,k<n->(fN (e0v pl) m (List.replicate n [],List.replicate n 0)).1.getD k []=fN (c0J pl k) m []/\(fN (e0v pl) m (List.replicate n [],List.replicate n 0)).2.getD k 0=l0G pl k m
 | 0,_=>⟨List.length_replicate,List.length_replicate,fun k hk=>by
   constructor
   ·show(List.replicate n ([]:List Int)).getD k []=[];rw[gq,List.getElem?_replicate,if_pos hk]; rfl
   ·show(List.replicate n (0:Int)).getD k 0=0;rw[gq,List.getElem?_replicate,if_pos hk]; rfl⟩
 | m+1,h=>by
   obtain⟨h1,h2,h3⟩:=l0z pl n m (fun i hi=>h i (by omega));have hm:=a0s.1 (h m (by omega));have e:fN (e0v pl) (m+1) (List.replicate n [],List.replicate n 0)=e0v pl m (fN (e0v pl) m (List.replicate n [],List.replicate n 0)):=rfl;rw[e];generalize fN (e0v pl) m (List.replicate n [],List.replicate n 0)=z at h1 h2 h3;have hlt:(pl m).2.2.1.toNat<n:=by omega
   have ed:∀k:Nat,l0G pl k (m+1)=if((pl m).2.2.1==(k:Int)&&(pl m).2.2.2)=true then(m:Int) else l0G pl k m:=fun _=>rfl
   have eq:∀k:Nat,((pl m).2.2.1==(k:Int))=decide (k=(pl m).2.2.1.toNat):=fun k=>by
    rw[Bool.eq_iff_iff,beq_iff_eq,dq];omega
   unfold e0v;cases hd:(pl m).2.2.2 with
   | true =>
     rw[if_pos rfl];refine⟨h1,by rw[List.length_set]; exact h2,fun k hk=>?_⟩;rw[i0L,ed k,eq,hd];refine⟨by simpa using (h3 k hk).1,?_⟩;show(z.2.set (pl m).2.2.1.toNat (m:Int)).getD k 0=_;rw[f0o (by omega)];by_cases hkk:k=(pl m).2.2.1.toNat
     ·simp[hkk]
     ·rw[if_neg hkk,(h3 k hk).2]; simp[hkk]
   | false =>
     rw[if_neg (by simp)];refine⟨by rw[List.length_set]; exact h1,h2,fun k hk=>?_⟩;rw[i0L,ed k,eq,hd];refine⟨?_,by simpa using (h3 k hk).2⟩;show(z.1.set (pl m).2.2.1.toNat (z.1.getD (pl m).2.2.1.toNat []++[(m:Int)])).getD k []=_;rw[f0o (by omega)];by_cases hkk:k=(pl m).2.2.1.toNat
     ·rw[if_pos hkk,<- hkk,(h3 k hk).1]; simp
     ·rw[if_neg hkk,(h3 k hk).1]; simp[hkk]
def q0o(d s x:Int)(t:Nat)(z:List a0D):List a0D:=z++[(2*d+(t:Int),2*s+(t:Int),2,x)]
def d0o(d:Int)(sn:List Int)(k:Nat)(z:List a0D):List a0D:=fN (q0o d (sn.getD k 0) (k:Int)) 2 z
theorem f0x(d:Int)(sn:List Int)(k:Nat)(z:List a0D):(d0o d sn k z).length=z.length+2:=by
 show((z++_)++_).length=_;rw[List.length_append,List.length_append]; rfl
def g0q(d:Nat->Int)(sn:Nat->List Int)(i:Nat)(z:List a0D):List a0D:=fN (d0o (d i) (sn i)) (sn i).length z
theorem e0L(d:Int)(sn:List Int)(z:List a0D):∀k,(fN (d0o d sn) k z).length=z.length+2*k
 | 0=>rfl
 | k+1=>by
   have:=e0L d sn z k;show(d0o d sn k (fN (d0o d sn) k z)).length=_;rw[f0x,this]; omega
theorem o0r(d:Nat->Int)(sn:Nat->List Int)(z:List a0D){n c:Nat}(h:∀i,i<n->(sn i).length<=c):∀m,m<=n->(fN (g0q d sn) m z).length<=z.length+2*(c*m)
 | 0,_=>by simp[fN]
 | m+1,hm=>by
   have h1:=o0r d sn z h m (by omega);have h2:=h m (by omega);show(fN (d0o (d m) (sn m)) (sn m).length (fN (g0q d sn) m z)).length<=_;rw[e0L,Nat.mul_add c];omega
def j0f{α:Type}(f:Nat->α)(i:Nat)(s:List α):List α:=s++[f i]
theorem e0e{α:Type}(f:Nat->α):∀n,(fN (j0f f) n []).length=n
 | 0=>rfl
 | n+1=>by
   have:=e0e f n;show(j0f f n (fN (j0f f) n [])).length=_;generalize fN (j0f f) n []=z at this;unfold j0f;rw[List.length_append,this]; rfl
theorem f0s{α:Type}(f:Nat->α)(d:α):∀n i,i<n->(fN (j0f f) n []).getD i d=f i
 | n+1,i,h=>by
   have hl:=e0e f n;have ih:=f0s f d n i;show(j0f f n (fN (j0f f) n [])).getD i d=_;generalize fN (j0f f) n []=s at hl ih;unfold j0f;rcases Nat.lt_or_ge i n with hi | hi
   ·rw[b0Z (by rw[hl]; exact hi)]; exact ih hi
   ·have:i=n:=by omega
    subst this;rw[c0Y (by rw[hl]; exact Nat.le_refl _),hl,Nat.sub_self]; rfl
def b0J(x:Nat->b0j):Nat->Nat
 | 0=>0
 | i+1=>b0J x i+(x i).2.2.length
theorem l0v(x:b0j)(i:Int)(d:a0p)(s:List a0p):∀n k,k<n->(fN (c0v x i) n s).getD (s.length+k) d=(i,(k:Int),x.2.2.getD k 0,(k:Int)==(x.2.2.length:Int)-1)
 | n+1,k,h=>by
   have hl:=c0u x i s n;have ih:=l0v x i d s n k;show(c0v x i n (fN (c0v x i) n s)).getD _ d=_;generalize fN (c0v x i) n s=z at hl ih;unfold c0v;rcases Nat.lt_or_ge k n with hk | hk
   ·rw[b0Z (by omega)]; exact ih hk
   ·have:k=n:=by omega
    subst this;rw[c0Y (by omega),hl,Nat.sub_self]; rfl
theorem l0u(x:b0j)(i:Int)(d:a0p)(s:List a0p):∀n j,j<s.length->(fN (c0v x i) n s).getD j d=s.getD j d
 | 0,_,_=>rfl
 | n+1,j,h=>by
   have hl:=c0u x i s n;have ih:=l0u x i d s n j h;show(c0v x i n (fN (c0v x i) n s)).getD _ d=_;generalize fN (c0v x i) n s=z at hl ih;unfold c0v;rw[b0Z (by omega)]; exact ih
theorem b0W(x:Nat->b0j):∀n,(fN (b0a x) n []).length=b0J x n
 | 0=>rfl
 | n+1=>by
   have:=b0W x n;show(b0a x n (fN (b0a x) n [])).length=_;unfold b0a;rw[c0u];show(fN (b0a x) n []).length+_=_;rw[this]; rfl
theorem h0b(x:Nat->b0j)(d:a0p):∀n i k,i<n->k < (x i).2.2.length->(fN (b0a x) n []).getD (b0J x i+k) d=((i:Int),(k:Int),(x i).2.2.getD k 0,(k:Int)==((x i).2.2.length:Int)-1)
 | n+1,i,k,hi,hk=>by
   have hl:=b0W x n;have ih:=h0b x d n i k;show(b0a x n (fN (b0a x) n [])).getD _ d=_;generalize fN (b0a x) n []=z at hl ih;unfold b0a;rcases Nat.lt_or_ge i n with h | h
   ·have hlt:b0J x i+k<z.length:=by
     rw[hl];have:∀m,i<m->b0J x i+(x i).2.2.length<=b0J x m:=by
      intro m
      induction m with
      | zero=>intro h; omega
      | succ m ih =>
        intro h;show _<=b0J x m+_;rcases Nat.lt_or_ge i m with h' | h'
        ·have:=ih h'; omega
        ·have:i=m:=by omega
         subst this; omega
     have:=this n h;omega
    rw[l0u _ _ _ _ _ _ hlt];exact ih h hk
   ·have:i=n:=by omega
    subst this;rw[<- hl];exact l0v _ _ _ _ _ _ hk
theorem k0V(y:Nat->c0L)(d:a0p)(s:List a0p):∀n j,j<s.length->(fN (c0d y) n s).getD j d=s.getD j d
 | 0,_,_=>rfl
 | n+1,j,h=>by
   have hl:=d0D y s n;have ih:=k0V y d s n j h;show(c0d y n (fN (c0d y) n s)).getD _ d=_;generalize fN (c0d y) n s=z at hl ih;unfold c0d;rw[b0Z (by omega)]; exact ih
theorem k0W(y:Nat->c0L)(d:a0p)(s:List a0p):∀n k,k<n->(fN (c0d y) n s).getD (s.length+k) d=(-1,(k:Int),(y k).2.2,(y k).2.1==1)
 | n+1,k,h=>by
   have hl:=d0D y s n;have ih:=k0W y d s n k;show(c0d y n (fN (c0d y) n s)).getD _ d=_;generalize fN (c0d y) n s=z at hl ih;unfold c0d;rcases Nat.lt_or_ge k n with hk | hk
   ·rw[b0Z (by omega)]; exact ih hk
   ·have:k=n:=by omega
    subst this;rw[c0Y (by omega),hl,Nat.sub_self]; rfl
theorem o0f(x:Nat->b0j):∀n j,j<b0J x n->∃i k,i<n/\k < (x i).2.2.length/\j=b0J x i+k
 | n+1,j,h=>by
   have h:j<b0J x n+(x n).2.2.length:=h;rcases Nat.lt_or_ge j (b0J x n) with hj | hj
   ·obtain⟨i,k,h1,h2,h3⟩:=o0f x n j hj;exact⟨i,k,by omega,h2,h3⟩
   ·exact⟨n,j-b0J x n,by omega,by omega,by omega⟩
theorem j0F(x:Nat->b0j){i n k:Nat}(hi:i<n)(hk:k < (x i).2.2.length):b0J x i+k<b0J x n:=by
 induction n with
 | zero=>omega
 | succ n ih =>
   show _<b0J x n+(x n).2.2.length;rcases Nat.lt_or_ge i n with h | h
   ·have:=ih h; omega
   ·have:i=n:=by omega
    subst this; omega
theorem c0R(ni np:Nat)(x:Nat->b0j)(y:Nat->c0L):(a0S ni np x y).length=b0J x ni+np:=by
 unfold a0S;rw[d0D,b0W]
theorem e0r(ni np:Nat)(x:Nat->b0j)(y:Nat->c0L)(d:a0p){i k:Nat}(hi:i<ni)(hk:k < (x i).2.2.length):(a0S ni np x y).getD (b0J x i+k) d=((i:Int),(k:Int),(x i).2.2.getD k 0,(k:Int)==((x i).2.2.length:Int)-1):=by
 unfold a0S;rw[k0V _ _ _ _ _ (by rw[b0W]; exact j0F x hi hk)];exact h0b x d ni i k hi hk
theorem h0a(ni np:Nat)(x:Nat->b0j)(y:Nat->c0L)(d:a0p){k:Nat}(hk:k<np):(a0S ni np x y).getD (b0J x ni+k) d=(-1,(k:Int),(y k).2.2,(y k).2.1==1):=by
 unfold a0S;rw[<- b0W x ni];exact k0W _ _ _ _ _ hk
theorem p0C(ni np:Nat)(x:Nat->b0j)(y:Nat->c0L)(d:a0p){i k:Nat}(hi:i<ni)(hk:k < (x i).2.2.length){j:Nat}(hj:j < (a0S ni np x y).length):(((a0S ni np x y).getD j d).1==(i:Int)&&((a0S ni np x y).getD j d).2.1==(k:Int))=decide (j=b0J x i+k):=by
 rw[Bool.eq_iff_iff,ba,beq_iff_eq,beq_iff_eq,dq];rw[c0R] at hj;constructor
 ·rintro⟨h1,h2⟩;rcases Nat.lt_or_ge j (b0J x ni) with h | h
  ·obtain⟨i',k',h3,h4,h5⟩:=o0f x ni j h;subst h5;rw[e0r ni np x y d h3 h4] at h1 h2;have e1:i'=i:=Int.ofNat.inj h1;have e2:k'=k:=Int.ofNat.inj h2;rw[e1,e2]
  ·have e:j=b0J x ni+(j-b0J x ni):=by omega
   rw[e,h0a ni np x y d (by omega)] at h1;have h1:(-1:Int)=(i:Int):=h1;omega
 ·rintro rfl;rw[e0r ni np x y d hi hk];exact⟨rfl,rfl⟩
def l0O(P:Nat->Bool)(m:Nat):Nat:=fN (fun i s=>if P i=true then s+1 else s) m 0
theorem b0F(P:Nat->Bool)(m:Nat):l0O P (m+1)=if P m=true then l0O P m+1 else l0O P m:=rfl
theorem o0M{P:Nat->Bool}:∀{m i:Nat},i<m->P i=true->1<=l0O P m
 | m+1,i,h,hp=>by
   rw[b0F];rcases Nat.lt_or_ge i m with h' | h'
   ·have:=o0M h' hp; split <;> omega
   ·have:i=m:=by omega
    subst this;rw[if_pos hp]; omega
theorem k0c{P:Nat->Bool}:∀{m i j:Nat},i<j->j<m->P i=true->P j=true->2<=l0O P m
 | m+1,i,j,h1,h2,hi,hj=>by
   rw[b0F];rcases Nat.lt_or_ge j m with h' | h'
   ·have:=k0c h1 h' hi hj; split <;> omega
   ·have:j=m:=by omega
    subst this;have:=o0M h1 hi;rw[if_pos hj]; omega
theorem s0Q{P:Nat->Bool}:∀{m:Nat},1<=l0O P m->∃i,i<m/\P i=true
 | 0,h=>by simp[l0O,fN] at h
 | m+1,h=>by
   rw[b0F] at h;by_cases hp:P m=true
   ·exact⟨m,by omega,hp⟩
   ·rw[if_neg hp] at h;obtain⟨i,h1,h2⟩:=s0Q h;exact⟨i,by omega,h2⟩
def m0e(pl:Nat->a0p)(t:Int)(j:Nat):Bool:=(pl j).2.2.1==t&&(pl j).2.2.2
theorem l0F{pl:Nat->a0p}{t:Int}:∀{m i:Nat},i<m->m0e pl t i=true->(∀j,i<j->j<m->m0e pl t j=false)->l0G pl t m=(i:Int)
 | m+1,i,h,hi,hn=>by
   have e:l0G pl t (m+1)=if m0e pl t m=true then(m:Int) else l0G pl t m:=rfl
   rw[e];rcases Nat.lt_or_ge i m with h' | h'
   ·rw[if_neg (by rw[hn m h' (by omega)]; simp)];exact l0F h' hi (fun j h1 h2=>hn j h1 (by omega))
   ·have:i=m:=by omega
    subst this;rw[if_pos hi]
theorem s0F{pl:Nat->a0p}{t:Int}{m:Nat}(h:l0O (m0e pl t) m=1):∃i,i<m/\m0e pl t i=true/\(∀j,j<m->m0e pl t j=decide (j=i))/\l0G pl t m=(i:Int):=by
 obtain⟨i,h1,h2⟩:=s0Q (Nat.le_of_eq h.symm);have hu:∀j,j<m->m0e pl t j=true->j=i:=fun j hj hd=>by
  rcases Nat.lt_trichotomy i j with h' | h' | h'
  ·have:=k0c h' hj h2 hd; omega
  ·exact h'.symm
  ·have:=k0c h' h1 hd h2; omega
 refine⟨i,h1,h2,fun j hj=>?_,l0F h1 h2 (fun j hij hj=>?_)⟩
 ·rw[Bool.eq_iff_iff,dq];exact⟨hu j hj,fun e=>by rw[e]; exact h2⟩
 ·rw[<- Bool.not_eq_true];intro hd;have:=hu j hj hd;omega
theorem o0N(P:Nat->Bool)(m:Nat):∀n,l0O P (m+n)=l0O P m+l0O (fun i=>P (m+i)) n
 | 0=>rfl
 | n+1=>by
   rw[<- Nat.add_assoc,b0F,b0F,o0N P m n];split <;> omega
theorem s0P{P:Nat->Bool}{n:Nat}(h:∀i,i<n->P i=false):l0O P (n+1)=if P n=true then 1 else 0:=by
 have:∀m,m<=n->l0O P m=0:=by
  intro m
  induction m with
  | zero=>intro _; rfl
  | succ m ih=>intro hm; rw[b0F,h m (by omega),if_neg (by simp),ih (by omega)]
 rw[b0F,this n (Nat.le_refl _)]
theorem o0A{ni np:Nat}{x:Nat->b0j}{y:Nat->c0L}{d:a0p}{nn:Nat}(hx:∀i,i<ni->1<=(x i).2.2.length/\inB ((x i).2.2.getD ((x i).2.2.length-1) 0) 0 ((nn:Int)-1)=true):∀n,n<=ni->(fN (d0I x) n (List.replicate nn 0)).length=nn/\∀t:Nat,t<nn->(fN (d0I x) n (List.replicate nn 0)).getD t 0=(l0O (m0e (fun j=>(a0S ni np x y).getD j d) t) (b0J x n):Nat)
 | 0,_=>⟨List.length_replicate,fun t ht=>by
   show(List.replicate nn (0:Int)).getD t 0=_;rw[gq,List.getElem?_replicate,if_pos ht]; rfl⟩
 | n+1,hn=>by
   obtain⟨h1,h2⟩:=o0A (np:=np) (y:=y) (d:=d) hx n (by omega);obtain⟨h3,h4⟩:=hx n (by omega);have h4:=a0s.1 h4;have e:fN (d0I x) (n+1) (List.replicate nn 0)=d0I x n (fN (d0I x) n (List.replicate nn 0)):=rfl;rw[e];generalize fN (d0I x) n (List.replicate nn 0)=v at h1 h2;unfold d0I h0x;refine⟨by rw[List.length_set]; exact h1,fun t ht=>?_⟩;rw[f0o (by omega)];show _=((l0O _ (b0J x n+(x n).2.2.length):Nat):Int);rw[o0N];have hk:∀k,k < (x n).2.2.length->m0e (fun j=>(a0S ni np x y).getD j d) t (b0J x n+k)=((x n).2.2.getD k 0==(t:Int)&&(k:Int)==((x n).2.2.length:Int)-1):=fun k hk=>by
    unfold m0e;show(((a0S ni np x y).getD (b0J x n+k) d).2.2.1==(t:Int)&&((a0S ni np x y).getD (b0J x n+k) d).2.2.2)=_;rw[e0r ni np x y d (by omega) hk]
   obtain⟨m,hm⟩:∃m,(x n).2.2.length=m+1:=⟨(x n).2.2.length-1,by omega⟩;have hm1:(x n).2.2.length-1=m:=by omega
   rw[hm1] at h4;rw[hm1,hm,s0P (fun i hi=>by rw[hk i (by omega),hm]; simp; omega),hk m (by omega),hm];have e1:((m:Int)==((m+1:Nat):Int)-1)=true:=by simp
   rw[e1,Bool.and_true];have e2:((x n).2.2.getD m 0==(t:Int))=decide (t=((x n).2.2.getD m 0).toNat):=by
    rw[Bool.eq_iff_iff,beq_iff_eq,dq];omega
   rw[e2];by_cases ht':t=((x n).2.2.getD m 0).toNat
   ·rw[if_pos ht',<- ht',h2 t ht,decide_eq_true rfl,if_pos rfl]; rfl
   ·rw[if_neg ht',h2 t ht,decide_eq_false ht',if_neg (by simp)]; omega
theorem o0b{ni np:Nat}{x:Nat->b0j}{y:Nat->c0L}{d:a0p}{nn:Nat}(hx:∀i,i<ni->1<=(x i).2.2.length/\inB ((x i).2.2.getD ((x i).2.2.length-1) 0) 0 ((nn:Int)-1)=true)(hy:∀i,i<np->inB (y i).2.2 0 ((nn:Int)-1)=true):∀n,n<=np->(fN (c0y y) n (fN (d0I x) ni (List.replicate nn 0))).length=nn/\∀t:Nat,t<nn->(fN (c0y y) n (fN (d0I x) ni (List.replicate nn 0))).getD t 0=(l0O (m0e (fun j=>(a0S ni np x y).getD j d) t) (b0J x ni+n):Nat)
 | 0,_=>o0A hx ni (Nat.le_refl _)
 | n+1,hn=>by
   obtain⟨h1,h2⟩:=o0b (d:=d) hx hy n (by omega);have h4:=a0s.1 (hy n (by omega));have e:fN (c0y y) (n+1) (fN (d0I x) ni (List.replicate nn 0))=c0y y n (fN (c0y y) n (fN (d0I x) ni (List.replicate nn 0))):=rfl;rw[e];generalize fN (c0y y) n (fN (d0I x) ni (List.replicate nn 0))=v at h1 h2;have hk:∀t:Nat,m0e (fun j=>(a0S ni np x y).getD j d) t (b0J x ni+n)=((y n).2.2==(t:Int)&&(y n).2.1==1):=fun t=>by
    unfold m0e;show(((a0S ni np x y).getD (b0J x ni+n) d).2.2.1==(t:Int)&&((a0S ni np x y).getD (b0J x ni+n) d).2.2.2)=_;rw[h0a ni np x y d (by omega)]
   have e2:∀t:Nat,((y n).2.2==(t:Int))=decide (t=(y n).2.2.toNat):=fun t=>by
    rw[Bool.eq_iff_iff,beq_iff_eq,dq];omega
   unfold c0y;split
   ·rename_i hd;unfold h0x;refine⟨by rw[List.length_set]; exact h1,fun t ht=>?_⟩;rw[f0o (by omega),<- Nat.add_assoc,b0F,hk,e2,hd];by_cases ht':t=(y n).2.2.toNat
    ·rw[if_pos ht',<- ht',h2 t ht]; simp
    ·rw[if_neg ht',h2 t ht]; simp[ht']
   ·rename_i hd;refine⟨h1,fun t ht=>?_⟩;rw[h2 t ht,<- Nat.add_assoc,b0F,hk];simp[hd]
end Go.Proofs.Xd
end
section
namespace Go.Proofs.Xd
open Go Go.Proofs.Xv Go.Proofs.Xl
theorem z0m{σ ρ:Type}{F:(σ->Option ρ)->σ->Option ρ}{s:σ}{r:Option ρ}(k:Nat)(hk:k<=9223372036854775807)(h:∀n,itF F (n+k) s=r):lp F s=r:=by
 have e:big=(big-k)+k:=by have:=o0T hk; omega
 unfold lp;rw[e];exact h _
end Go.Proofs.Xd
end
section
namespace Go.Proofs.Xd
open Go Go.Proofs Go.Proofs.Xl
theorem s0b{σ ρ:Type}{F:(σ->Option ρ)->σ->Option ρ}{J:σ->Option ρ}(μ:σ->Nat)(I:σ->Prop)(c:σ->Bool)(nx:σ->σ)
  (hF:∀g s,I s->F g s=if c s=true then g (nx s) else J s) (hI:∀s,I s->c s=true->I (nx s)/\μ (nx s)<μ s) (s:σ) (hs:I s) (hm:μ s<=9223372036854775806):∃s',I s'/\c s'=false/\lp F s=J s':=by
 have key:∀(n:Nat) (s:σ),μ s<=n->I s->∃s',I s'/\c s'=false/\∀k,itF F (k+(n+1)) s=J s':=by
  intro n
  induction n with
  | zero =>
    intro s hn hs;cases hc:c s with
    | true=>have:=(hI s hs hc).2; omega
    | false=>exact⟨s,hs,hc,fun k=>by show F (itF F k) s=_; rw[hF _ _ hs,hc]; rfl⟩
  | succ n ih =>
    intro s hn hs;cases hc:c s with
    | true =>
      obtain⟨h1,h2⟩:=hI s hs hc;obtain⟨s',h3,h4,h5⟩:=ih (nx s) (by omega) h1;refine⟨s',h3,h4,fun k=>?_⟩;show F (itF F (k+(n+1))) s=_;rw[hF _ _ hs,hc,if_pos rfl];exact h5 k
    | false=>exact⟨s,hs,hc,fun k=>by show F (itF F (k+(n+1))) s=_; rw[hF _ _ hs,hc]; rfl⟩
 obtain⟨s',h1,h2,h3⟩:=key (μ s) s (Nat.le_refl _) hs;exact⟨s',h1,h2,z0m (μ s+1) (by omega) h3⟩
end Go.Proofs.Xd
end
section
namespace Go.Proofs.Xd
open Go.Proofs.Xl
theorem v0B{α:Type}{l:List α}{p q:α->Bool}(h:∀a∈l,p a=q a):l.find? p=l.find? q:=by
 induction l with
 | nil=>rfl
 | cons a r ih =>
   rw[List.find?_cons,List.find?_cons,h a (by simp),ih (fun b hb=>h b (by simp[hb]))]
theorem g0o{α:Type}(l:List α)(p q r:α->Bool)(h:∀a∈l,(p a).toNat=(q a).toNat+(r a).toNat):l.countP p=l.countP q+l.countP r:=by
 induction l with
 | nil=>rfl
 | cons a t ih =>
   have h1:=h a (by simp);have h2:=ih (fun b hb=>h b (by simp[hb]));rw[List.countP_cons,List.countP_cons,List.countP_cons];cases hp:p a <;> cases hq:q a <;> cases hr:r a <;> simp[hp,hq,hr] at h1 ⊢ <;> omega
theorem p0S{α:Type}(l:List α)(p q:α->Bool)(h:∀a∈l,p a=q a):l.countP p=l.countP q:=by
 induction l with
 | nil=>rfl
 | cons a t ih =>
   rw[List.countP_cons,List.countP_cons,h a (by simp),ih (fun b hb=>h b (by simp[hb]))]
section
variable (M N:Nat) (fr to:Nat->Nat) (lv:Nat->Bool)
def m0X(out:List Nat)(v:Nat):Nat:=(List.range M).countP fun i=>lv i&&to i==v&&!out.contains (fr i)
def t0u(o:List Int)(i:Nat):List Int:=o.set (to i) (o.getD (to i) 0-1)
def s0o(o:List Int)(i:Nat):List Int:=o.set (to i) (o.getD (to i) 0+1)
def p0H:List Int:=((List.range M).filter lv).foldl (s0o to) (List.replicate N 0)
def r0p(o:List Int)(v:Nat):List Int:=((List.range M).filter fun i=>lv i&&fr i==v).foldl (t0u to) (o.set v (-1))
def i0d(out:List Nat):List Int:=out.foldl (r0p M fr to lv) (p0H M N to lv)
def e0t(out:List Nat):Option Nat:=(List.range N).find? fun v=>!out.contains v&&m0X M fr to lv out v==0
def h0f:Nat->List Nat->Option (List Nat)
 | 0,out=>some out
 | k+1,out=>match e0t M N fr to lv out with
   | none=>none
   | some v=>h0f k (out++[v])
theorem l0b(out:List Nat)(v:Nat):i0d M N fr to lv (out++[v])=r0p M fr to lv (i0d M N fr to lv out) v:=by
 unfold i0d;rw[List.foldl_append];rfl
theorem f0F{o:List Int}{i v:Nat}(x:Int)(hi:i<o.length):(o.set i x).getD v 0=if v=i then x else o.getD v 0:=by
 rw[gq,gq,List.getElem?_set];by_cases h:i=v
 ·subst h; simp[hi]
 ·rw[if_neg h,if_neg (Ne.symm h)]
theorem z0I(is:List Nat)(o:List Int)(h:∀i∈is,to i<o.length)(v:Nat):(is.foldl (t0u to) o).length=o.length/\(is.foldl (t0u to) o).getD v 0=o.getD v 0-(is.countP fun i=>to i==v):=by
 induction is generalizing o with
 | nil=>simp
 | cons i r ih =>
   have hi:=h i (by simp);have hl:(t0u to o i).length=o.length:=by simp[t0u]
   obtain⟨h1,h2⟩:=ih (t0u to o i) (fun j hj=>by rw[hl]; exact h j (by simp[hj]));refine⟨h1.trans hl,?_⟩;rw[List.foldl_cons,h2,List.countP_cons];unfold t0u;rw[f0F _ hi];by_cases hv:v=to i
   ·subst hv; simp; omega
   ·have:¬to i=v:=fun e=>hv e.symm;simp[hv,this]
theorem z0y(is:List Nat)(o:List Int)(h:∀i∈is,to i<o.length)(v:Nat):(is.foldl (s0o to) o).length=o.length/\(is.foldl (s0o to) o).getD v 0=o.getD v 0+(is.countP fun i=>to i==v):=by
 induction is generalizing o with
 | nil=>simp
 | cons i r ih =>
   have hi:=h i (by simp);have hl:(s0o to o i).length=o.length:=by simp[s0o]
   obtain⟨h1,h2⟩:=ih (s0o to o i) (fun j hj=>by rw[hl]; exact h j (by simp[hj]));refine⟨h1.trans hl,?_⟩;rw[List.foldl_cons,h2,List.countP_cons];unfold s0o;rw[f0F _ hi];by_cases hv:v=to i
   ·subst hv; simp; omega
   ·have:¬to i=v:=fun e=>hv e.symm;simp[hv,this]
variable {M N fr to lv}
theorem f0U(p:Nat->Bool):(List.range M).countP p<=M:=by
 have:=List.countP_le_length (p:=p) (l:=List.range M)
 rwa [List.length_range] at this
theorem r0K(ht:∀i,i<M->to i<N)(v:Nat):(p0H M N to lv).length=N/\(p0H M N to lv).getD v 0=m0X M fr to lv [] v:=by
 have hh:∀i∈(List.range M).filter lv,to i < (List.replicate N (0:Int)).length:=fun i hi=>by
  rw[List.mem_filter,List.mem_range] at hi;rw[List.length_replicate];exact ht i hi.1
 obtain⟨h1,h2⟩:=z0y to ((List.range M).filter lv) (List.replicate N 0) hh v;refine⟨by rw[p0H,h1,List.length_replicate],?_⟩;rw[p0H,h2,List.countP_filter];have e0:(List.replicate N (0:Int)).getD v 0=0:=by
  rw[gq,List.getElem?_replicate];split <;> rfl
 rw[e0,Int.zero_add];congr 1;refine p0S _ _ _ (fun i _=>?_);rw[List.contains_nil,Bool.not_false,Bool.and_true,Bool.and_comm]
structure D0e(M N:Nat)(fr to:Nat->Nat)(lv:Nat->Bool)(out:List Nat)(o:List Int):Prop where
 len:o.length=N
 un:∀v,v<N->v ∉ out->o.getD v 0=m0X M fr to lv out v
 li:∀v,v<N->v∈out->o.getD v 0<0
 lo:∀v,v<N -> -(1+(out.length:Int)*M)<=o.getD v 0
 hi:∀v,v<N->o.getD v 0<=M
theorem v0L{out:List Nat}{v:Nat}(hv:v ∉ out)(w:Nat):m0X M fr to lv out w=((List.range M).countP fun i=>to i==w&&(lv i&&fr i==v))+m0X M fr to lv (out++[v]) w:=by
 unfold m0X;refine g0o _ _ _ _ (fun i _=>?_);have hc:(out++[v]).contains (fr i)=(out.contains (fr i)||fr i==v):=by
  rw[List.contains_eq_any_beq,List.contains_eq_any_beq,List.any_append];simp
 rw[hc];by_cases hf:fr i=v
 ·subst hf;have:out.contains (fr i)=false:=by
   rw[<- Bool.not_eq_true,List.contains_iff_mem]; exact hv
  rw[this];cases lv i <;> cases(to i==w) <;> simp
 ·have:(fr i==v)=false:=by simp[hf]
  rw[this];cases lv i <;> cases(to i==w) <;> cases out.contains (fr i) <;> rfl
theorem x0W(ht:∀i,i<M->to i<N):D0e M N fr to lv [] (p0H M N to lv):=by
 have h:=fun v=>r0K (fr:=fr) (lv:=lv) ht v;refine⟨(h 0).1,fun v _ _=>(h v).2,fun v _ hm=>(nomatch hm),fun v _=>?_,fun v _=>?_⟩
 ·rw[(h v).2];have:(0:Int)<=(m0X M fr to lv [] v:Int):=Int.natCast_nonneg _;simp only[List.length_nil];omega
 ·rw[(h v).2];have:m0X M fr to lv [] v<=M:=f0U _;omega
theorem r0L(ht:∀i,i<M->to i<N){out:List Nat}{o:List Int}(h:D0e M N fr to lv out o){v:Nat}(hv:v<N)(hn:v ∉ out):D0e M N fr to lv (out++[v]) (r0p M fr to lv o v):=by
 have hl:(o.set v (-1)).length=N:=by rw[List.length_set,h.len]
 have key:=fun w=>z0I to ((List.range M).filter fun i=>lv i&&fr i==v) (o.set v (-1)) (fun i hi=>by
  rw[List.mem_filter,List.mem_range] at hi;rw[hl];exact ht i hi.1) w
 have kw:∀w,(r0p M fr to lv o v).getD w 0=(if w=v then -1 else o.getD w 0)-((List.range M).countP fun i=>to i==w&&(lv i&&fr i==v)):=fun w=>by
  unfold r0p;rw[(key w).2,f0F _ (by rw[h.len]; exact hv),List.countP_filter]
 have hc:∀w,(((List.range M).countP fun i=>to i==w&&(lv i&&fr i==v):Nat):Int)<=M:=fun w=>by
  have:=f0U (M:=M) (fun i=>to i==w&&(lv i&&fr i==v));omega
 have hlen:((out++[v]).length:Int)*M=(out.length:Int)*M+M:=by
  rw[List.length_append,List.length_singleton,Int.natCast_add,Int.add_mul];simp
 have hM:(0:Int)<=(out.length:Int)*M:=Int.mul_nonneg (Int.natCast_nonneg _) (Int.natCast_nonneg _);refine⟨(key 0).1.trans hl,fun w hw hm=>?_,fun w hw hm=>?_,fun w hw=>?_,fun w hw=>?_⟩
 ·rw[kw,if_neg (fun e=>hm (by simp[e])),h.un w hw (fun e=>hm (by simp[e])),v0L hn w];omega
 ·rw[kw];by_cases e:w=v
  ·rw[if_pos e]; omega
  ·rw[if_neg e];have:=h.li w hw (by
    rcases List.mem_append.1 hm with hm | hm
    ·exact hm
    ·exact(e (List.mem_singleton.1 hm)).elim)
   omega
 ·rw[kw,hlen];have h1:=hc w;have h2:=h.lo w hw;split <;> omega
 ·rw[kw];have h1:=hc w;have h2:=h.hi w hw;split <;> omega
theorem r0M{out:List Nat}{o:List Int}(h:D0e M N fr to lv out o):(List.range o.length).find? (fun v=>(0:Int)==o.getD v 0)=e0t M N fr to lv out:=by
 unfold e0t;rw[h.len];refine v0B (fun v hv=>?_);have hv:=List.mem_range.1 hv;by_cases hm:v∈out
 ·have h1:=h.li v hv hm;have h2:out.contains v=true:=List.contains_iff_mem.2 hm;have h3:((0:Int)==o.getD v 0)=false:=beq_eq_false_iff_ne.2 (by omega);rw[h2,h3]; rfl
 ·have h1:=h.un v hv hm;have h2:out.contains v=false:=by rw[<- Bool.not_eq_true,List.contains_iff_mem]; exact hm
  rw[h1,h2,Bool.not_false,Bool.true_and,Bool.eq_iff_iff];simp only[beq_iff_eq];omega
theorem m0E{out:List Nat}{v:Nat}(h:e0t M N fr to lv out=some v):v<N/\v ∉ out:=by
 unfold e0t at h;have h1:=List.mem_of_find?_eq_some h;have h2:=List.find?_some h;rw[ba,Bool.not_eq_true',<- Bool.not_eq_true,List.contains_iff_mem] at h2;exact⟨List.mem_range.1 h1,h2.1⟩
def i0h(N:Nat)(out:List Nat):List Bool:=out.foldl (fun l v=>l.set v true) (List.replicate N false)
theorem b0z{o:List Bool}{i v:Nat}(x:Bool)(hi:i<o.length):(o.set i x).getD v false=if v=i then x else o.getD v false:=by
 rw[gq,gq,List.getElem?_set];by_cases h:i=v
 ·subst h; simp[hi]
 ·rw[if_neg h,if_neg (Ne.symm h)]
theorem s0g(out:List Nat)(v:Nat):i0h N (out++[v])=(i0h N out).set v true:=by
 unfold i0h;rw[List.foldl_append];rfl
theorem f0a(out:List Nat)(o:List Bool)(h:∀v∈out,v<o.length)(w:Nat):(out.foldl (fun l v=>l.set v true) o).length=o.length/\(out.foldl (fun l v=>l.set v true) o).getD w false=(out.contains w||o.getD w false):=by
 induction out generalizing o with
 | nil=>simp
 | cons v r ih =>
   obtain⟨h1,h2⟩:=ih (o.set v true) (fun x hx=>by rw[List.length_set]; exact h x (by simp[hx]));rw[List.length_set] at h1;refine⟨h1,?_⟩;rw[List.foldl_cons,h2,b0z _ (h v (by simp)),List.contains_cons];by_cases e:w=v
   ·subst e; simp
   ·have:(w==v)=false:=by simp[e]
    rw[if_neg e,this,Bool.false_or]
theorem h0n{out:List Nat}(h:∀v∈out,v<N)(w:Nat):(i0h N out).length=N/\(i0h N out).getD w false=out.contains w:=by
 obtain⟨h1,h2⟩:=f0a out (List.replicate N false) (fun v hv=>by rw[List.length_replicate]; exact h v hv) w;refine⟨h1.trans List.length_replicate,?_⟩;have e0:(List.replicate N false).getD w false=false:=by
  rw[gq,List.getElem?_replicate];split <;> rfl
 have:(i0h N out).getD w false=(out.contains w||(List.replicate N false).getD w false):=h2;rw[this,e0,Bool.or_false]
end
end Go.Proofs.Xd
end
section
namespace Go.Proofs.YtphnknndgfgepaaGreatDoor
open Go Go.Proofs Go.Proofs.Xv Go.Proofs.Xl Go.Proofs.Xd
theorem p0A(a b c:Int):b0y a b c=some (inB a b c):=rfl
theorem r97(a b c:Int):u97 a b c=some (inB a b c):=rfl
theorem G0Z(a b c:Int):A0j a b c=some (!inB a b c):=by
 unfold A0j;rw[p0A,gP ⟨rfl,trivial⟩,vS]
theorem u0z(xs:List Int)(b c:Int)(h:xs.length<=9223372036854775807):e0S xs (b,c)=some (xs.any fun x=>!inB x b c):=by
 have h1:g0y xs (b,c)=_:=b0S h (fun i=>!inB (xs.getD i 0) b c) (fun g i hi=>h0y hi h (G0Z _ _ _)) (fun g=>aE);have:=d0k h1;rw[a0W xs 0 (fun x=>!inB x b c)] at this;exact this
theorem A0v(xs:List Int)(b c:Int)(h:xs.length<=9223372036854775807):e0U xs b c=some (xs.all (inB · b c)):=by
 unfold e0U;rw[u0z _ _ _ h,gP ⟨rfl,trivial⟩,vS,c0e]
theorem F0s(xs:List Int)(h:xs.length<=9223372036854775807)(h1:1<=xs.length):A0n xs=some (v0w xs):=by
 have key:=z0n h (fun i=>decide (xs.getD i 0<=xs.getD (i-1) 0)) (some false) (e:=some true) (F:=w0N xs) 1 h1 (fun g i hk hi=>by
  have e:((i:Int)-1).toNat=i-1:=by omega
  refine(d0N hi h ⟨oo,oo,oo,trivial⟩).trans ?_;rw[e]; rfl) (fun g=>aE)
 refine key.trans ?_;unfold v0w;have:((List.range xs.length).any fun i=>decide (1<=i)&&decide (xs.getD i 0<=xs.getD (i-1) 0))=(List.range xs.length).any fun i=>decide (0<i)&&decide (xs.getD i 0<=xs.getD (i-1) 0):=rfl;rw[this];cases(List.range xs.length).any fun i=>decide (0<i)&&decide (xs.getD i 0<=xs.getD (i-1) 0) <;> rfl
theorem F0n(xs:List Int)(h:xs.length<=9223372036854775807):n0p xs=some (c0F xs):=by
 unfold n0p;have e:d0p xs=some (xs.length:Int):=rfl;have ed:∀a:Bool,(a=true->1<=xs.length)->(a=true/\True->(A0n xs).isSome=true):=fun a ha hc=>by rw[F0s xs h (ha hc.1)]; rfl
 rw[e,vS,p0A,vS,A0v xs 0 100000 h,vS,gP ⟨rfl,rfl,fun _=>rfl,ed _ (fun hc=>by
  simp only[inB,ba,dq] at hc; omega),trivial⟩]
 congr 1;unfold c0F;by_cases h1:1<=xs.length
 ·rw[F0s xs h h1,vS];congr 2;rw[Bool.eq_iff_iff];simp only[inB,ba,dq];omega
 ·have h2:decide (1<=xs.length)=false:=by simpa using h1
  have h3:inB (xs.length:Int) 1 4=false:=by
   rw[<- Bool.not_eq_true,a0s]; omega
  rw[h2,h3]; rfl
theorem F0o(xs:List Int)(h:xs.length<=9223372036854775807):q0I xs=some (c0F xs):=by
 have key:=b0f (n:=xs.length) h (fun i=>!inB (xs.getD i 0) 0 100000||decide (0<i)&&decide (xs.getD i 0<=xs.getD (i-1) 0)) (some false) (e:=n0q xs ()) (F:=v0Y xs) (fun g i hi=>by
  have e:((i:Int)-1).toNat=i-1:=by omega
  have e2:decide ((0:Int) < (i:Int))=decide (0<i):=by rw[decide_eq_decide]; omega
  refine(d0N hi h ⟨oo,rfl,fun hc=>oo,fun hc=>⟨by have:=hc.1; simp at this; omega,by omega⟩,fun hc=>oo,trivial⟩).trans ?_;rw[e,r97,vS,e2]; rfl) (fun g=>aE)
 refine key.trans ?_;unfold c0F n0q;have e3:((List.range xs.length).any fun i=>!inB (xs.getD i 0) 0 100000||decide (0<i)&&decide (xs.getD i 0<=xs.getD (i-1) 0))=!(xs.all (inB · 0 100000)&&v0w xs):=by
  rw[<- c0e,<- a0W xs 0 (fun x=>!inB x 0 100000),v0w,<- Bool.not_or,Bool.not_not];rw[Bool.eq_iff_iff,Bool.or_eq_true,List.any_eq_true,List.any_eq_true,List.any_eq_true];constructor
  ·rintro⟨i,h1,h2⟩;rcases Bool.or_eq_true _ _ ▸ h2 with h3 | h3
   ·exact .inl ⟨i,h1,h3⟩
   ·exact .inr ⟨i,h1,h3⟩
  ·rintro(⟨i,h1,h2⟩ | ⟨i,h1,h2⟩)
   ·exact⟨i,h1,by rw[h2]; rfl⟩
   ·exact⟨i,h1,by rw[h2,Bool.or_true]⟩
 rw[e3];cases hA:(xs.all (inB · 0 100000)&&v0w xs) with
 | false=>rw[if_pos (by rfl),Bool.and_assoc,hA,Bool.and_false]
 | true =>
   rw[if_neg (by simp),Bool.and_assoc,hA,Bool.and_true];refine congrArg some ?_;rw[Bool.eq_iff_iff];simp only[ba,dq];omega
theorem G0L(t:d0O)(hw:wf y140 t):y0I t=some (a0X t):=by
 obtain⟨⟨h1,_⟩,⟨h2,_⟩,h3,_⟩:=hw;unfold y0I;have hb:(c0F t.1&&c0F t.2.1)=true/\True->a0f ((t.1.length:Int)*(t.2.1.length:Int)):=fun hc=>by
  have hc:=hc.1;rw[ba] at hc;obtain⟨a1,a2⟩:=e0d hc.1;obtain⟨b1,b2⟩:=e0d hc.2;have c2:t.1.length*t.2.1.length<=4*4:=Nat.mul_le_mul a2 b2;have e:(t.1.length:Int)*(t.2.1.length:Int)=((t.1.length*t.2.1.length:Nat):Int):=by simp
  rw[e];exact oo
 rw[F0n _ h1,F0n _ h2,A0v _ _ _ h3,vS,vS,vS,gP ⟨rfl,fun _=>rfl,hb,fun _=>rfl,trivial⟩];congr 1;unfold a0X;congr 2;rw[Bool.eq_iff_iff];simp only[beq_iff_eq,dq];constructor
 ·intro h; exact_mod_cast h
 ·intro h; exact_mod_cast h
theorem G0N(t:d0O)(hw:wf y140 t):A0e t=some (a0X t):=by
 obtain⟨⟨h1,_⟩,⟨h2,_⟩,h3,_⟩:=hw;unfold A0e;have hb:(!c0F t.1||!c0F t.2.1)=false/\True->a0f ((t.1.length:Int)*(t.2.1.length:Int)):=fun hc=>by
  have hc:=hc.1;simp only[Bool.or_eq_false_iff,Bool.not_eq_false'] at hc;obtain⟨a1,a2⟩:=e0d hc.1;obtain⟨b1,b2⟩:=e0d hc.2;have c2:t.1.length*t.2.1.length<=4*4:=Nat.mul_le_mul a2 b2;have e:(t.1.length:Int)*(t.2.1.length:Int)=((t.1.length*t.2.1.length:Nat):Int):=by simp
  rw[e];exact oo
 rw[F0o _ h1,F0o _ h2,vS,vS,gP ⟨rfl,fun _=>rfl,hb,trivial⟩];have key:=b0f (n:=t.2.2.length) h3 (fun i=>!inB (t.2.2.getD i 0) (-1000000) 1000000) (some false) (e:=some true) (F:=w0c t) (fun g i hi=>d0N hi h3 ⟨oo,rfl,trivial⟩) (fun g=>aE);rw[key,a0W t.2.2 0 (fun x=>!inB x (-1000000) 1000000)];have e:((t.2.2.length:Int) != (t.1.length:Int)*(t.2.1.length:Int))=!decide (t.2.2.length=t.1.length*t.2.1.length):=by
  rw[Bool.eq_iff_iff];simp only[bne_iff_ne,Bool.not_eq_true',decide_eq_false_iff_not,ne_eq];constructor
  ·intro h k; exact h (by exact_mod_cast k)
  ·intro h k; exact h (by exact_mod_cast k)
 rw[e];unfold a0X;rw[<- c0e];cases c0F t.1 <;> cases c0F t.2.1 <;> cases decide (t.2.2.length=t.1.length*t.2.1.length) <;> cases(t.2.2.any fun x=>!inB x (-1000000) 1000000) <;> rfl
end Go.Proofs.YtphnknndgfgepaaGreatDoor
end
section
namespace Go.Proofs.YtphnknndgfgepaaGreatDoor
open Go Go.Proofs Go.Proofs.Sv Go.Proofs.Xv Go.Proofs.Xl Go.Proofs.Xd
theorem E0m(s:ByteArray)(h:s.size<=9223372036854775807):m0o s=some (nmB s):=by
 have key:=b0f (n:=s.size) h (fun i=>!chB (a0r s i) i) (some false) (e:=n0B s ()) (F:=w0V s) (fun g i hi=>by
  refine(z0T hi h ⟨oo,fun _=>oo,trivial⟩ ⟨oo,fun _=>oo,trivial⟩).trans ?_;have e2:decide ((0:Int) < (i:Int))=decide (0<i):=by rw[decide_eq_decide]; omega
  have e3:((i:Int)).toNat=i:=rfl;rw[e2,e3];unfold chB p0K z0F;rw[Bool.not_or]) (fun g=>aE)
 refine key.trans ?_;unfold nmB n0B;rw[o0o];cases(List.range s.size).any fun i=>!chB (a0r s i) i
 ·rfl
 ·rfl
theorem F0A(s:ByteArray)(h:s.size<=9223372036854775807):m0b s=some (nmB s):=by
 unfold m0b;have t1:w0U s ⟨#[97,98,99,100,101,102,103,104,105,106,107,108,109,110,111,112,113,114,115,116,117,118,119,120,121,122,48,49,50,51,52,53,54,55,56,57]⟩=some ⟨(Lib.trimS s.data.toList low36).toArray⟩:=if_pos ⟨by decide,by decide⟩;have t2:∀c,D0A ⟨#[97,98,99,100,101,102,103,104,105,106,107,108,109,110,111,112,113,114,115,116,117,118,119,120,121,122]⟩ c=some (Lib.indexByte low26 c.toNat.toUInt8):=fun _=>rfl;rw[t1,t2,p0A,vS,vS,vS,gP ⟨rfl,fun _=>rfl,fun hc=>⟨by decide,by
  have:=hc.1;rw[ba,a0s] at this;omega⟩,fun _=>rfl,trivial⟩,lE]
 refine congrArg some ?_;show(inB (s.size:Int) 1 8&&decide ((⟨(Lib.trimS s.data.toList low36).toArray⟩:ByteArray)=⟨#[]⟩)&&decide (0<=Lib.indexByte low26 (a0r s (Int.toNat 0)).toNat.toUInt8))=nmB s;by_cases hb:1<=s.size/\s.size<=8
 ·rw[u0R s hb.1 hb.2];have e1:inB (s.size:Int) 1 8=true:=by rw[a0s]; omega
  have e2:decide ((⟨(Lib.trimS s.data.toList low36).toArray⟩:ByteArray)=⟨#[]⟩)=(Lib.trimS s.data.toList low36==[]):=by
   rw[Bool.eq_iff_iff,dq,beq_iff_eq];constructor
   ·intro h;injection h with h;have:=congrArg Array.toList h;simpa using this
   ·intro h; rw[h]
  rw[e1,e2,Bool.true_and];rfl
 ·have e1:inB (s.size:Int) 1 8=false:=by rw[<- Bool.not_eq_true,a0s]; omega
  have e2:nmB s=false:=by
   rw[<- Bool.not_eq_true];intro hc;simp only[nmB,ba,dq] at hc;omega
  rw[e1,e2]; rfl
theorem G0R(xs:List ByteArray)(x:ByteArray)(h:xs.length<=9223372036854775807):B0F xs x=some (xs.any fun y=>decide (x=y)):=by
 have h1:D0t xs x=_:=b0S h (fun i=>decide (x=xs.getD i (a0a .str))) (fun g i hi=>by
  refine(if_pos (by simpa using hi)).trans ?_;rw[gP ⟨oo,trivial⟩,gP ⟨oo,trivial⟩];rfl) (fun g=>aE)
 have:=d0k h1;rw[a0W xs (a0a .str) (fun y=>decide (x=y))] at this;exact this
theorem C0d(xs:List ByteArray)(hw:wf (.sl .str) xs):i0y xs=some (a0B xs.length fun i=>xs.getD i (a0a .str)):=by
 have h:=hw.1;have key:=b0f (n:=xs.length) h (fun i=>!nmB (xs.getD i (a0a .str))||h0X (fun i=>xs.getD i (a0a .str)) i) (some false) (e:=some true) (F:=w0u xs) (fun g i hi=>by
  have hs:=e0n (d:=a0a .str) hi hw;have hl:(xs.take i).length<=9223372036854775807:=by rw[List.length_take]; omega
  have e1:=F0A _ hs;have e2:=G0R (xs.take i) (xs.getD i (a0a .str)) hl;rw[u0a xs (a0a .str) i hi] at e2;have e3:((i:Int)).toNat=i:=rfl;refine(if_pos (by simpa using hi)).trans ?_;rw[e3,e1,e2,vS,vS,gP ⟨oo,trivial⟩,gP ⟨rfl,fun _=>⟨by omega,by omega,by omega⟩,fun _=>rfl,trivial⟩,gP ⟨oo,trivial⟩]) (fun g=>aE)
 refine key.trans ?_;unfold a0B;cases(List.range xs.length).any fun i=>!nmB (xs.getD i (a0a .str))||h0X (fun i=>xs.getD i (a0a .str)) i <;> rfl
theorem E0n(xs:List ByteArray)(hw:wf (.sl .str) xs):n0D xs=some (a0B xs.length fun i=>xs.getD i (a0a .str)):=by
 have h:=hw.1;have key:=b0f (n:=xs.length) h (fun i=>!nmB (xs.getD i (a0a .str))||h0X (fun i=>xs.getD i (a0a .str)) i) (some false) (e:=some true) (F:=x0d xs) (fun g i hi=>by
  have hs:=e0n (d:=a0a .str) hi hw;have e1:=E0m _ hs;have e3:((i:Int)).toNat=i:=rfl;have inner:=b0f (n:=i) (by omega) (fun k=>decide (xs.getD k (a0a .str)=xs.getD i (a0a .str))) (some false) (e:=g ((i:Int)+1)) (F:=x0c xs (i:Int) g) (fun g3 k hk=>by
   refine(d0N hk (by omega) ⟨oo,oo,trivial⟩).trans ?_;rfl) (fun g3=>by
   refine aE.trans ?_;unfold q0Y;exact gP ⟨oo,trivial⟩)
  refine(if_pos (by simpa using hi)).trans ?_;rw[e3,e1,vS,gP ⟨oo,rfl,trivial⟩,inner];unfold h0X;cases nmB (xs.getD i (a0a .str)) <;> cases(List.range i).any fun k=>decide (xs.getD k (a0a .str)=xs.getD i (a0a .str)) <;> rfl) (fun g=>aE)
 refine key.trans ?_;unfold a0B;cases(List.range xs.length).any fun i=>!nmB (xs.getD i (a0a .str))||h0X (fun i=>xs.getD i (a0a .str)) i <;> rfl
theorem F0p(xs:List Int)(h:xs.length<=9223372036854775807)(h1:1<=xs.length):A0c xs=some (r0W xs):=by
 unfold A0c;rw[if_neg (by simp; omega)];unfold q0K;rw[gP ⟨oo,trivial⟩];have key:=lF (n:=xs.length-1) (by omega) (fun i (m:Int)=>(m,((i+1:Nat):Int))) (fun i m=>min m (xs.getD (i+1) 0)) (fun _ _=>True) (J:=fun m=>some m) (F:=q0J xs) (fun g i s hi _=>by
  refine(if_pos (by simp; omega)).trans ?_;rw[gP ⟨oo,trivial⟩,gP ⟨oo,trivial⟩];rfl) (fun _ _ _ _=>trivial) (fun g s _=>by
  have e:xs.length-1+1=xs.length:=by omega
  show q0J xs g (s,((xs.length-1+1:Nat):Int))=some s;rw[e];exact aE) (xs.getD 0 0) trivial
 exact key
theorem G0M(t:d0O)(p:Bool)(hw:wf y140 t):A0d t p=some (!a0X t||p&&decide (r0W t.2.2<0)):=by
 unfold A0d;have hv:p=true/\(!a0X t)=false/\True->(A0c t.2.2).isSome=true:=fun hc=>by
  have h2:a0X t=true:=by simpa using hc.2.1
  rw[F0p _ hw.2.2.1 (g0T h2).2.2.2.2.2.1]; rfl
 rw[G0L t hw,vS,gP ⟨rfl,hv,trivial⟩,lE];refine congrArg some ?_;cases hT:a0X t with
 | false=>rfl
 | true=>rw[F0p _ hw.2.2.1 (g0T hT).2.2.2.2.2.1,vS]
theorem E0j(l:List d0O)(p:Bool)(hw:wf (.sl y140) l):j0n l p=some (a0m l p):=by
 have h:=hw.1;have h1:g0t l p=_:=b0S h (fun i=>!a0X (l.getD i (a0a y140))||p&&decide (r0W (l.getD i (a0a y140)).2.2<0)) (fun g i hi=>h0y hi h (G0M _ _ (e0n hi hw))) (fun g=>aE);have h2:e0P l p=_:=d0k h1;rw[a0W l (a0a y140) (fun t=>!a0X t||p&&decide (r0W t.2.2<0))] at h2;unfold j0n;rw[h2,vS,gP ⟨fun _=>rfl,trivial⟩];refine congrArg some ?_;unfold a0m;have e:((l.length:Int)==2)=decide (l.length=2):=by
  rw[Bool.eq_iff_iff,beq_iff_eq,dq]; omega
 rw[e,<- c0e];congr 3;funext t;rw[Bool.not_and,Bool.not_not]
theorem o0F(xs:List Int):∀n,(fN (fun i (s:Int×Int)=>(min s.1 (xs.getD (i+1) 0),max s.2 (xs.getD (i+1) 0))) n (xs.getD 0 0,xs.getD 0 0)).1=fN (fun i m=>min m (xs.getD (i+1) 0)) n (xs.getD 0 0)
 | 0=>rfl
 | n+1=>by rw[fN,fN,o0F xs n]
theorem G0P(t:d0O)(hw:wf y140 t):∃l,B0D t=some (if a0X t=true then((r0W t.2.2,l),0) else((0,0),1)):=by
 unfold B0D;rw[G0N t hw,vS,gP ⟨rfl,trivial⟩];cases hT:a0X t with
 | false=>exact⟨0,rfl⟩
 | true =>
   have h1:=(g0T hT).2.2.2.2.2.1;have h:=hw.2.2.1;have key:=lF (n:=t.2.2.length-1) (by omega) (fun i (s:Int×Int)=>(((i+1:Nat):Int),s.1,s.2)) (fun i s=>(min s.1 (t.2.2.getD (i+1) 0),max s.2 (t.2.2.getD (i+1) 0))) (fun _ _=>True) (J:=fun s=>some ((s.1,s.2),(0:Int))) (F:=q0L t) (fun g i s hi _=>by
    refine(if_pos (by simp; omega)).trans ?_;rw[gP ⟨oo,trivial⟩,gP ⟨oo,trivial⟩,gP ⟨oo,trivial⟩];rfl) (fun _ _ _ _=>trivial) (fun g s _=>by
    have e:t.2.2.length-1+1=t.2.2.length:=by omega
    show q0L t g (((t.2.2.length-1+1:Nat):Int),s.1,s.2)=_;rw[e];exact aE) (t.2.2.getD 0 0,t.2.2.getD 0 0) trivial
   rw[if_neg (by simp),gP ⟨oo,oo,trivial⟩];rw[o0F] at key;exact⟨_,key⟩
theorem C0c(l:List d0O)(p:Bool)(hw:wf (.sl y140) l):i0t l p=some (a0m l p):=by
 unfold i0t;have e:((l.length:Int) != 2)=!decide (l.length=2):=by
  rw[Bool.eq_iff_iff]; simp; omega
 rw[e];unfold a0m;by_cases h2:l.length=2
 ·have key:=b0f (n:=2) (by decide) (fun i=>!a0X (l.getD i (a0a y140))||p&&decide (r0W (l.getD i (a0a y140)).2.2<0)) (some false) (e:=some true) (F:=q0N p l) (fun g i hi=>by
   obtain⟨m,hm⟩:=G0P (l.getD i (a0a y140)) (e0n (by omega) hw);have e3:((i:Int)).toNat=i:=rfl;refine(if_pos (by simp; omega)).trans ?_;rw[e3,hm,vS,gP ⟨oo,rfl,trivial⟩,lE,gP ⟨oo,trivial⟩];cases a0X (l.getD i (a0a y140)) <;> rfl) (fun g=>by
   unfold q0N;exact if_neg (by decide))
  rw[decide_eq_true h2,if_neg (by simp)];refine key.trans ?_;have:=a0W l (a0a y140) (fun t=>!a0X t||p&&decide (r0W t.2.2<0));rw[h2] at this;rw[this,<- c0e,Bool.true_and];have e5:(fun t:d0O=>!(a0X t&&!(p&&decide (r0W t.2.2<0))))=fun t=>!a0X t||p&&decide (r0W t.2.2<0):=by
   funext t; rw[Bool.not_and,Bool.not_not]
  rw[e5];cases l.any fun t=>!a0X t||p&&decide (r0W t.2.2<0) <;> rfl
 ·rw[decide_eq_false h2]; rfl
end Go.Proofs.YtphnknndgfgepaaGreatDoor
end
