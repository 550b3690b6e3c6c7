/- The links of a block. Plain facts. -/
import Derived.Test.YtphnknndgfgepaaGreatDoorWB
import Derived.Test.YtphnknndgfgepaaGreatDoorF7Ad
section
namespace Go.Proofs.Xd
open Go Go.Proofs Go.Proofs.Xl
abbrev DLink:=Int×Int×Int×Int
def transV(k s:Int):List (Int×Int):=if(k==2)=true then [(0,0),(0,1)] else if(k==3)=true then [(1,0),(1,1)] else if(k != 1)=true then [] else if(s==1)=true then [(0,0),(1,1)] else if(s==2)=true then [(0,1),(1,0)] else [(0,0),(0,1),(1,0),(1,1)]
theorem transV_ok(k s:Int):(transV k s).length<=4/\∀t∈transV k s,0<=t.1/\t.1<=1/\0<=t.2/\t.2<=1:=by
 unfold transV;split
 ·exact⟨by decide,by decide⟩
 split
 ·exact⟨by decide,by decide⟩
 split
 ·exact⟨by decide,by decide⟩
 split
 ·exact⟨by decide,by decide⟩
 split
 ·exact⟨by decide,by decide⟩
 ·exact⟨by decide,by decide⟩
def clinkF(f a b x:Int)(tr:List (Int×Int))(k:Nat)(s:List DLink):List DLink:=s++[(2*(f+a)+(tr.getD k (0,0)).1,2*(f+b)+(tr.getD k (0,0)).2,1,x)]
theorem clinkF_len(f a b x:Int)(tr:List (Int×Int))(s:List DLink):∀k,(fN (clinkF f a b x tr) k s).length=s.length+k
 | 0=>rfl
 | k+1=>by
   have:=clinkF_len f a b x tr s k;show(clinkF f a b x tr k (fN (clinkF f a b x tr) k s)).length=_;generalize fN (clinkF f a b x tr) k s=z at this;unfold clinkF;rw[List.length_append,this]; rfl
def carcF(f:Int)(arcs:Nat->DArc)(j:Nat)(s:List DLink):List DLink:=fN (clinkF f (arcs j).2.1 (arcs j).2.2.1 (j:Int) (transV (arcs j).1 (arcs j).2.2.2.1)) (transV (arcs j).1 (arcs j).2.2.2.1).length s
theorem carcF_len(f:Int)(arcs:Nat->DArc)(j:Nat)(s:List DLink):(carcF f arcs j s).length<=s.length+4:=by
 unfold carcF;rw[clinkF_len];have:=(transV_ok (arcs j).1 (arcs j).2.2.2.1).1;omega
def cellLinksD(f:Int)(arcs:Nat->DArc)(m:Nat):List DLink:=fN (carcF f arcs) m []
theorem cellLinksD_len(f:Int)(arcs:Nat->DArc):∀m,(cellLinksD f arcs m).length<=4*m
 | 0=>Nat.le_refl _
 | m+1=>by
   have h1:=cellLinksD_len f arcs m;have h2:=carcF_len f arcs m (cellLinksD f arcs m);show(carcF f arcs m (cellLinksD f arcs m)).length<=_;omega
def instLF(nets:Nat->Nat)(arcs:Nat->Nat->DArc)(ms:Nat->Nat)(i:Nat)(s:Int×List DLink):Int×List DLink:=(s.1+(nets i:Int),s.2++cellLinksD s.1 (arcs i) (ms i))
theorem instLF_in{nets:Nat->Nat}{arcs:Nat->Nat->DArc}{ms:Nat->Nat}{n:Nat}(h:∀i,i<n->nets i<=5/\ms i<=8):∀m,m<=n->0<=(fN (instLF nets arcs ms) m (0,[])).1/\(fN (instLF nets arcs ms) m (0,[])).1<=5*(m:Int)/\(fN (instLF nets arcs ms) m (0,[])).2.length<=32*m
 | 0,_=>⟨Int.le_refl _,Int.le_refl _,Nat.le_refl _⟩
 | m+1,hm=>by
   obtain⟨h1,h2,h3⟩:=instLF_in h m (by omega);obtain⟨h4,h5⟩:=h m (by omega);show 0<=(instLF nets arcs ms m (fN (instLF nets arcs ms) m (0,[]))).1/\(instLF nets arcs ms m (fN (instLF nets arcs ms) m (0,[]))).1<=_/\(instLF nets arcs ms m (fN (instLF nets arcs ms) m (0,[]))).2.length<=_;generalize fN (instLF nets arcs ms) m (0,[])=z at h1 h2 h3;unfold instLF;have:=cellLinksD_len z.1 (arcs m) (ms m);refine⟨by show 0<=z.1+(nets m:Int); omega,by show z.1+(nets m:Int)<=_; omega,?_⟩;show(z.2++cellLinksD z.1 (arcs m) (ms m)).length<=_;rw[List.length_append]; omega
def gridF(pl:Nat->DPlace)(i:Nat)(s:List (List Int)×List Int):List (List Int)×List Int:=if(pl i).2.2.2=true then(s.1,s.2.set (pl i).2.2.1.toNat (i:Int)) else(s.1.set (pl i).2.2.1.toNat (s.1.getD (pl i).2.2.1.toNat []++[(i:Int)]),s.2)
def drvN(pl:Nat->DPlace)(t:Int)(m:Nat):Int:=fN (fun i s=>if((pl i).2.2.1==t&&(pl i).2.2.2)=true then(i:Int) else s) m 0
theorem drvN_in(pl:Nat->DPlace)(t:Int):∀m,0<=drvN pl t m/\drvN pl t m<=m
 | 0=>⟨Int.le_refl _,Int.le_refl _⟩
 | m+1=>by
   have:=drvN_in pl t m;have e:drvN pl t (m+1)=if((pl m).2.2.1==t&&(pl m).2.2.2)=true then(m:Int) else drvN pl t m:=rfl
   rw[e];split <;> omega
theorem sinkL_succ(pl:Nat->DPlace)(t:Int)(m:Nat):fN (sinkL pl t) (m+1) []=if((pl m).2.2.1==t&&!(pl m).2.2.2)=true then fN (sinkL pl t) m []++[(m:Int)] else fN (sinkL pl t) m []:=rfl
theorem getD_set{α:Type}{l:List α}{i j:Nat}{x d:α}(hi:i<l.length):(l.set i x).getD j d=if j=i then x else l.getD j d:=by
 by_cases h:j=i
 ·subst h; simp[hi]
 ·rw[if_neg h]; simp[List.getElem?_set_ne (Ne.symm h)]
theorem grid_fold(pl:Nat->DPlace)(n:Nat):∀m,(∀i,i<m->inB (pl i).2.2.1 0 ((n:Int)-1)=true)->(fN (gridF pl) m (List.replicate n [],List.replicate n 0)).1.length=n/\(fN (gridF pl) m (List.replicate n [],List.replicate n 0)).2.length=n /\
  ∀k:Nat,k<n->(fN (gridF pl) m (List.replicate n [],List.replicate n 0)).1.getD k []=fN (sinkL pl k) m []/\(fN (gridF pl) m (List.replicate n [],List.replicate n 0)).2.getD k 0=drvN pl k m
 | 0,_=>⟨List.length_replicate,List.length_replicate,fun k hk=>by
   constructor
   ·show(List.replicate n ([]:List Int)).getD k []=[];rw[gq,List.getElem?_replicate,if_pos hk]; rfl
   ·show(List.replicate n (0:Int)).getD k 0=0;rw[gq,List.getElem?_replicate,if_pos hk]; rfl⟩
 | m+1,h=>by
   obtain⟨h1,h2,h3⟩:=grid_fold pl n m (fun i hi=>h i (by omega));have hm:=inB_iff.1 (h m (by omega));have e:fN (gridF pl) (m+1) (List.replicate n [],List.replicate n 0)=gridF pl m (fN (gridF pl) m (List.replicate n [],List.replicate n 0)):=rfl;rw[e];generalize fN (gridF pl) m (List.replicate n [],List.replicate n 0)=z at h1 h2 h3;have hlt:(pl m).2.2.1.toNat<n:=by omega
   have ed:∀k:Nat,drvN pl k (m+1)=if((pl m).2.2.1==(k:Int)&&(pl m).2.2.2)=true then(m:Int) else drvN pl k m:=fun _=>rfl
   have eq:∀k:Nat,((pl m).2.2.1==(k:Int))=decide (k=(pl m).2.2.1.toNat):=fun k=>by
    rw[Bool.eq_iff_iff,beq_iff_eq,dq];omega
   unfold gridF;cases hd:(pl m).2.2.2 with
   | true =>
     rw[if_pos rfl];refine⟨h1,by rw[List.length_set]; exact h2,fun k hk=>?_⟩;rw[sinkL_succ,ed k,eq,hd];refine⟨by simpa using (h3 k hk).1,?_⟩;show(z.2.set (pl m).2.2.1.toNat (m:Int)).getD k 0=_;rw[getD_set (by omega)];by_cases hkk:k=(pl m).2.2.1.toNat
     ·simp[hkk]
     ·rw[if_neg hkk,(h3 k hk).2]; simp[hkk]
   | false =>
     rw[if_neg (by simp)];refine⟨by rw[List.length_set]; exact h1,h2,fun k hk=>?_⟩;rw[sinkL_succ,ed k,eq,hd];refine⟨?_,by simpa using (h3 k hk).2⟩;show(z.1.set (pl m).2.2.1.toNat (z.1.getD (pl m).2.2.1.toNat []++[(m:Int)])).getD k []=_;rw[getD_set (by omega)];by_cases hkk:k=(pl m).2.2.1.toNat
     ·rw[if_pos hkk,<- hkk,(h3 k hk).1]; simp
     ·rw[if_neg hkk,(h3 k hk).1]; simp[hkk]
def wlinkF(d s x:Int)(t:Nat)(z:List DLink):List DLink:=z++[(2*d+(t:Int),2*s+(t:Int),2,x)]
def wsinkF(d:Int)(sn:List Int)(k:Nat)(z:List DLink):List DLink:=fN (wlinkF d (sn.getD k 0) (k:Int)) 2 z
theorem wsinkF_len(d:Int)(sn:List Int)(k:Nat)(z:List DLink):(wsinkF d sn k z).length=z.length+2:=by
 show((z++_)++_).length=_;rw[List.length_append,List.length_append]; rfl
def netLF(d:Nat->Int)(sn:Nat->List Int)(i:Nat)(z:List DLink):List DLink:=fN (wsinkF (d i) (sn i)) (sn i).length z
theorem wsink_len(d:Int)(sn:List Int)(z:List DLink):∀k,(fN (wsinkF d sn) k z).length=z.length+2*k
 | 0=>rfl
 | k+1=>by
   have:=wsink_len d sn z k;show(wsinkF d sn k (fN (wsinkF d sn) k z)).length=_;rw[wsinkF_len,this]; omega
theorem netL_len(d:Nat->Int)(sn:Nat->List Int)(z:List DLink){n c:Nat}(h:∀i,i<n->(sn i).length<=c):∀m,m<=n->(fN (netLF d sn) m z).length<=z.length+2*(c*m)
 | 0,_=>by simp[fN]
 | m+1,hm=>by
   have h1:=netL_len d sn z h m (by omega);have h2:=h m (by omega);show(fN (wsinkF (d m) (sn m)) (sn m).length (fN (netLF d sn) m z)).length<=_;rw[wsink_len,Nat.mul_add c];omega
def appF{α:Type}(f:Nat->α)(i:Nat)(s:List α):List α:=s++[f i]
theorem appF_len{α:Type}(f:Nat->α):∀n,(fN (appF f) n []).length=n
 | 0=>rfl
 | n+1=>by
   have:=appF_len f n;show(appF f n (fN (appF f) n [])).length=_;generalize fN (appF f) n []=z at this;unfold appF;rw[List.length_append,this]; rfl
theorem appF_get{α:Type}(f:Nat->α)(d:α):∀n i,i<n->(fN (appF f) n []).getD i d=f i
 | n+1,i,h=>by
   have hl:=appF_len f n;have ih:=appF_get f d n i;show(appF f n (fN (appF f) n [])).getD i d=_;generalize fN (appF f) n []=s at hl ih;unfold appF;rcases Nat.lt_or_ge i n with hi | hi
   ·rw[getD_left (by rw[hl]; exact hi)]; exact ih hi
   ·have:i=n:=by omega
    subst this;rw[getD_right (by rw[hl]; exact Nat.le_refl _),hl,Nat.sub_self]; rfl
def offs(x:Nat->DInst):Nat->Nat
 | 0=>0
 | i+1=>offs x i+(x i).2.2.length
theorem instP_get(x:DInst)(i:Int)(d:DPlace)(s:List DPlace):∀n k,k<n->(fN (instP x i) n s).getD (s.length+k) d=(i,(k:Int),x.2.2.getD k 0,(k:Int)==(x.2.2.length:Int)-1)
 | n+1,k,h=>by
   have hl:=instP_len x i s n;have ih:=instP_get x i d s n k;show(instP x i n (fN (instP x i) n s)).getD _ d=_;generalize fN (instP x i) n s=z at hl ih;unfold instP;rcases Nat.lt_or_ge k n with hk | hk
   ·rw[getD_left (by omega)]; exact ih hk
   ·have:k=n:=by omega
    subst this;rw[getD_right (by omega),hl,Nat.sub_self]; rfl
theorem instP_old(x:DInst)(i:Int)(d:DPlace)(s:List DPlace):∀n j,j<s.length->(fN (instP x i) n s).getD j d=s.getD j d
 | 0,_,_=>rfl
 | n+1,j,h=>by
   have hl:=instP_len x i s n;have ih:=instP_old x i d s n j h;show(instP x i n (fN (instP x i) n s)).getD _ d=_;generalize fN (instP x i) n s=z at hl ih;unfold instP;rw[getD_left (by omega)]; exact ih
theorem placesF_offs(x:Nat->DInst):∀n,(fN (placesF x) n []).length=offs x n
 | 0=>rfl
 | n+1=>by
   have:=placesF_offs x n;show(placesF x n (fN (placesF x) n [])).length=_;unfold placesF;rw[instP_len];show(fN (placesF x) n []).length+_=_;rw[this]; rfl
theorem placesF_get(x:Nat->DInst)(d:DPlace):∀n i k,i<n->k < (x i).2.2.length->(fN (placesF x) n []).getD (offs x i+k) d=((i:Int),(k:Int),(x i).2.2.getD k 0,(k:Int)==((x i).2.2.length:Int)-1)
 | n+1,i,k,hi,hk=>by
   have hl:=placesF_offs x n;have ih:=placesF_get x d n i k;show(placesF x n (fN (placesF x) n [])).getD _ d=_;generalize fN (placesF x) n []=z at hl ih;unfold placesF;rcases Nat.lt_or_ge i n with h | h
   ·have hlt:offs x i+k<z.length:=by
     rw[hl];have:∀m,i<m->offs x i+(x i).2.2.length<=offs x m:=by
      intro m
      induction m with
      | zero=>intro h; omega
      | succ m ih =>
        intro h;show _<=offs x m+_;rcases Nat.lt_or_ge i m with h' | h'
        ·have:=ih h'; omega
        ·have:i=m:=by omega
         subst this; omega
     have:=this n h;omega
    rw[instP_old _ _ _ _ _ _ hlt];exact ih h hk
   ·have:i=n:=by omega
    subst this;rw[<- hl];exact instP_get _ _ _ _ _ _ hk
theorem portP_old(y:Nat->DPort)(d:DPlace)(s:List DPlace):∀n j,j<s.length->(fN (portP y) n s).getD j d=s.getD j d
 | 0,_,_=>rfl
 | n+1,j,h=>by
   have hl:=portP_len y s n;have ih:=portP_old y d s n j h;show(portP y n (fN (portP y) n s)).getD _ d=_;generalize fN (portP y) n s=z at hl ih;unfold portP;rw[getD_left (by omega)]; exact ih
theorem portP_get(y:Nat->DPort)(d:DPlace)(s:List DPlace):∀n k,k<n->(fN (portP y) n s).getD (s.length+k) d=(-1,(k:Int),(y k).2.2,(y k).2.1==1)
 | n+1,k,h=>by
   have hl:=portP_len y s n;have ih:=portP_get y d s n k;show(portP y n (fN (portP y) n s)).getD _ d=_;generalize fN (portP y) n s=z at hl ih;unfold portP;rcases Nat.lt_or_ge k n with hk | hk
   ·rw[getD_left (by omega)]; exact ih hk
   ·have:k=n:=by omega
    subst this;rw[getD_right (by omega),hl,Nat.sub_self]; rfl
theorem offs_inv(x:Nat->DInst):∀n j,j<offs x n->∃i k,i<n/\k < (x i).2.2.length/\j=offs x i+k
 | n+1,j,h=>by
   have h:j<offs x n+(x n).2.2.length:=h;rcases Nat.lt_or_ge j (offs x n) with hj | hj
   ·obtain⟨i,k,h1,h2,h3⟩:=offs_inv x n j hj;exact⟨i,k,by omega,h2,h3⟩
   ·exact⟨n,j-offs x n,by omega,by omega,by omega⟩
theorem offs_lt(x:Nat->DInst){i n k:Nat}(hi:i<n)(hk:k < (x i).2.2.length):offs x i+k<offs x n:=by
 induction n with
 | zero=>omega
 | succ n ih =>
   show _<offs x n+(x n).2.2.length;rcases Nat.lt_or_ge i n with h | h
   ·have:=ih h; omega
   ·have:i=n:=by omega
    subst this; omega
theorem places_len(ni np:Nat)(x:Nat->DInst)(y:Nat->DPort):(placesN ni np x y).length=offs x ni+np:=by
 unfold placesN;rw[portP_len,placesF_offs]
theorem places_inst(ni np:Nat)(x:Nat->DInst)(y:Nat->DPort)(d:DPlace){i k:Nat}(hi:i<ni)(hk:k < (x i).2.2.length):(placesN ni np x y).getD (offs x i+k) d=((i:Int),(k:Int),(x i).2.2.getD k 0,(k:Int)==((x i).2.2.length:Int)-1):=by
 unfold placesN;rw[portP_old _ _ _ _ _ (by rw[placesF_offs]; exact offs_lt x hi hk)];exact placesF_get x d ni i k hi hk
theorem places_port(ni np:Nat)(x:Nat->DInst)(y:Nat->DPort)(d:DPlace){k:Nat}(hk:k<np):(placesN ni np x y).getD (offs x ni+k) d=(-1,(k:Int),(y k).2.2,(y k).2.1==1):=by
 unfold placesN;rw[<- placesF_offs x ni];exact portP_get _ _ _ _ _ hk
theorem place_only(ni np:Nat)(x:Nat->DInst)(y:Nat->DPort)(d:DPlace){i k:Nat}(hi:i<ni)(hk:k < (x i).2.2.length){j:Nat}(hj:j < (placesN ni np x y).length):(((placesN ni np x y).getD j d).1==(i:Int)&&((placesN ni np x y).getD j d).2.1==(k:Int))=decide (j=offs x i+k):=by
 rw[Bool.eq_iff_iff,ba,beq_iff_eq,beq_iff_eq,dq];rw[places_len] at hj;constructor
 ·rintro⟨h1,h2⟩;rcases Nat.lt_or_ge j (offs x ni) with h | h
  ·obtain⟨i',k',h3,h4,h5⟩:=offs_inv x ni j h;subst h5;rw[places_inst ni np x y d h3 h4] at h1 h2;have e1:i'=i:=Int.ofNat.inj h1;have e2:k'=k:=Int.ofNat.inj h2;rw[e1,e2]
  ·have e:j=offs x ni+(j-offs x ni):=by omega
   rw[e,places_port ni np x y d (by omega)] at h1;have h1:(-1:Int)=(i:Int):=h1;omega
 ·rintro rfl;rw[places_inst ni np x y d hi hk];exact⟨rfl,rfl⟩
def cntF(P:Nat->Bool)(m:Nat):Nat:=fN (fun i s=>if P i=true then s+1 else s) m 0
theorem cntF_succ(P:Nat->Bool)(m:Nat):cntF P (m+1)=if P m=true then cntF P m+1 else cntF P m:=rfl
theorem cntF_one{P:Nat->Bool}:∀{m i:Nat},i<m->P i=true->1<=cntF P m
 | m+1,i,h,hp=>by
   rw[cntF_succ];rcases Nat.lt_or_ge i m with h' | h'
   ·have:=cntF_one h' hp; split <;> omega
   ·have:i=m:=by omega
    subst this;rw[if_pos hp]; omega
theorem cntF_two{P:Nat->Bool}:∀{m i j:Nat},i<j->j<m->P i=true->P j=true->2<=cntF P m
 | m+1,i,j,h1,h2,hi,hj=>by
   rw[cntF_succ];rcases Nat.lt_or_ge j m with h' | h'
   ·have:=cntF_two h1 h' hi hj; split <;> omega
   ·have:j=m:=by omega
    subst this;have:=cntF_one h1 hi;rw[if_pos hj]; omega
theorem cntF_ex{P:Nat->Bool}:∀{m:Nat},1<=cntF P m->∃i,i<m/\P i=true
 | 0,h=>by simp[cntF,fN] at h
 | m+1,h=>by
   rw[cntF_succ] at h;by_cases hp:P m=true
   ·exact⟨m,by omega,hp⟩
   ·rw[if_neg hp] at h;obtain⟨i,h1,h2⟩:=cntF_ex h;exact⟨i,by omega,h2⟩
def drvB(pl:Nat->DPlace)(t:Int)(j:Nat):Bool:=(pl j).2.2.1==t&&(pl j).2.2.2
theorem drvN_last{pl:Nat->DPlace}{t:Int}:∀{m i:Nat},i<m->drvB pl t i=true->(∀j,i<j->j<m->drvB pl t j=false)->drvN pl t m=(i:Int)
 | m+1,i,h,hi,hn=>by
   have e:drvN pl t (m+1)=if drvB pl t m=true then(m:Int) else drvN pl t m:=rfl
   rw[e];rcases Nat.lt_or_ge i m with h' | h'
   ·rw[if_neg (by rw[hn m h' (by omega)]; simp)];exact drvN_last h' hi (fun j h1 h2=>hn j h1 (by omega))
   ·have:i=m:=by omega
    subst this;rw[if_pos hi]
theorem drv_one{pl:Nat->DPlace}{t:Int}{m:Nat}(h:cntF (drvB pl t) m=1):∃i,i<m/\drvB pl t i=true/\(∀j,j<m->drvB pl t j=decide (j=i))/\drvN pl t m=(i:Int):=by
 obtain⟨i,h1,h2⟩:=cntF_ex (Nat.le_of_eq h.symm);have hu:∀j,j<m->drvB pl t j=true->j=i:=fun j hj hd=>by
  rcases Nat.lt_trichotomy i j with h' | h' | h'
  ·have:=cntF_two h' hj h2 hd; omega
  ·exact h'.symm
  ·have:=cntF_two h' h1 hd h2; omega
 refine⟨i,h1,h2,fun j hj=>?_,drvN_last h1 h2 (fun j hij hj=>?_)⟩
 ·rw[Bool.eq_iff_iff,dq];exact⟨hu j hj,fun e=>by rw[e]; exact h2⟩
 ·rw[<- Bool.not_eq_true];intro hd;have:=hu j hj hd;omega
theorem cntF_add(P:Nat->Bool)(m:Nat):∀n,cntF P (m+n)=cntF P m+cntF (fun i=>P (m+i)) n
 | 0=>rfl
 | n+1=>by
   rw[<- Nat.add_assoc,cntF_succ,cntF_succ,cntF_add P m n];split <;> omega
theorem cntF_last{P:Nat->Bool}{n:Nat}(h:∀i,i<n->P i=false):cntF P (n+1)=if P n=true then 1 else 0:=by
 have:∀m,m<=n->cntF P m=0:=by
  intro m
  induction m with
  | zero=>intro _; rfl
  | succ m ih=>intro hm; rw[cntF_succ,h m (by omega),if_neg (by simp),ih (by omega)]
 rw[cntF_succ,this n (Nat.le_refl _)]
theorem inst_cnt{ni np:Nat}{x:Nat->DInst}{y:Nat->DPort}{d:DPlace}{nn:Nat}(hx:∀i,i<ni->1<=(x i).2.2.length/\inB ((x i).2.2.getD ((x i).2.2.length-1) 0) 0 ((nn:Int)-1)=true):∀n,n<=ni->(fN (instF x) n (List.replicate nn 0)).length=nn/\∀t:Nat,t<nn->(fN (instF x) n (List.replicate nn 0)).getD t 0=(cntF (drvB (fun j=>(placesN ni np x y).getD j d) t) (offs x n):Nat)
 | 0,_=>⟨List.length_replicate,fun t ht=>by
   show(List.replicate nn (0:Int)).getD t 0=_;rw[gq,List.getElem?_replicate,if_pos ht]; rfl⟩
 | n+1,hn=>by
   obtain⟨h1,h2⟩:=inst_cnt (np:=np) (y:=y) (d:=d) hx n (by omega);obtain⟨h3,h4⟩:=hx n (by omega);have h4:=inB_iff.1 h4;have e:fN (instF x) (n+1) (List.replicate nn 0)=instF x n (fN (instF x) n (List.replicate nn 0)):=rfl;rw[e];generalize fN (instF x) n (List.replicate nn 0)=v at h1 h2;unfold instF incAt;refine⟨by rw[List.length_set]; exact h1,fun t ht=>?_⟩;rw[getD_set (by omega)];show _=((cntF _ (offs x n+(x n).2.2.length):Nat):Int);rw[cntF_add];have hk:∀k,k < (x n).2.2.length->drvB (fun j=>(placesN ni np x y).getD j d) t (offs x n+k)=((x n).2.2.getD k 0==(t:Int)&&(k:Int)==((x n).2.2.length:Int)-1):=fun k hk=>by
    unfold drvB;show(((placesN ni np x y).getD (offs x n+k) d).2.2.1==(t:Int)&&((placesN ni np x y).getD (offs x n+k) d).2.2.2)=_;rw[places_inst ni np x y d (by omega) hk]
   obtain⟨m,hm⟩:∃m,(x n).2.2.length=m+1:=⟨(x n).2.2.length-1,by omega⟩;have hm1:(x n).2.2.length-1=m:=by omega
   rw[hm1] at h4;rw[hm1,hm,cntF_last (fun i hi=>by rw[hk i (by omega),hm]; simp; omega),hk m (by omega),hm];have e1:((m:Int)==((m+1:Nat):Int)-1)=true:=by simp
   rw[e1,Bool.and_true];have e2:((x n).2.2.getD m 0==(t:Int))=decide (t=((x n).2.2.getD m 0).toNat):=by
    rw[Bool.eq_iff_iff,beq_iff_eq,dq];omega
   rw[e2];by_cases ht':t=((x n).2.2.getD m 0).toNat
   ·rw[if_pos ht',<- ht',h2 t ht,decide_eq_true rfl,if_pos rfl]; rfl
   ·rw[if_neg ht',h2 t ht,decide_eq_false ht',if_neg (by simp)]; omega
theorem port_cnt{ni np:Nat}{x:Nat->DInst}{y:Nat->DPort}{d:DPlace}{nn:Nat}(hx:∀i,i<ni->1<=(x i).2.2.length/\inB ((x i).2.2.getD ((x i).2.2.length-1) 0) 0 ((nn:Int)-1)=true)(hy:∀i,i<np->inB (y i).2.2 0 ((nn:Int)-1)=true):∀n,n<=np->(fN (portF y) n (fN (instF x) ni (List.replicate nn 0))).length=nn/\∀t:Nat,t<nn->(fN (portF y) n (fN (instF x) ni (List.replicate nn 0))).getD t 0=(cntF (drvB (fun j=>(placesN ni np x y).getD j d) t) (offs x ni+n):Nat)
 | 0,_=>inst_cnt hx ni (Nat.le_refl _)
 | n+1,hn=>by
   obtain⟨h1,h2⟩:=port_cnt (d:=d) hx hy n (by omega);have h4:=inB_iff.1 (hy n (by omega));have e:fN (portF y) (n+1) (fN (instF x) ni (List.replicate nn 0))=portF y n (fN (portF y) n (fN (instF x) ni (List.replicate nn 0))):=rfl;rw[e];generalize fN (portF y) n (fN (instF x) ni (List.replicate nn 0))=v at h1 h2;have hk:∀t:Nat,drvB (fun j=>(placesN ni np x y).getD j d) t (offs x ni+n)=((y n).2.2==(t:Int)&&(y n).2.1==1):=fun t=>by
    unfold drvB;show(((placesN ni np x y).getD (offs x ni+n) d).2.2.1==(t:Int)&&((placesN ni np x y).getD (offs x ni+n) d).2.2.2)=_;rw[places_port ni np x y d (by omega)]
   have e2:∀t:Nat,((y n).2.2==(t:Int))=decide (t=(y n).2.2.toNat):=fun t=>by
    rw[Bool.eq_iff_iff,beq_iff_eq,dq];omega
   unfold portF;split
   ·rename_i hd;unfold incAt;refine⟨by rw[List.length_set]; exact h1,fun t ht=>?_⟩;rw[getD_set (by omega),<- Nat.add_assoc,cntF_succ,hk,e2,hd];by_cases ht':t=(y n).2.2.toNat
    ·rw[if_pos ht',<- ht',h2 t ht]; simp
    ·rw[if_neg ht',h2 t ht]; simp[ht']
   ·rename_i hd;refine⟨h1,fun t ht=>?_⟩;rw[h2 t ht,<- Nat.add_assoc,cntF_succ,hk];simp[hd]
end Go.Proofs.Xd
end
section
namespace Go.Proofs.Xd
open Go Go.Proofs.Xv Go.Proofs.Xl
theorem axis_inc{xs:List Int}(h:isAxis xs=true):∀i,0<i->i<xs.length->xs.getD (i-1) 0<xs.getD i 0:=by
 simp only[isAxis,ba,dq] at h;intro i h0 hi;have:=not_any.1 h.2 i hi;simp only[Bool.and_eq_false_iff,decide_eq_false_iff_not] at this;omega
theorem axis_mono{xs:List Int}(h:isAxis xs=true):∀k i,i+k<xs.length->0<k->xs.getD i 0<xs.getD (i+k) 0:=by
 intro k
 induction k with
 | zero=>intro i _ h0; omega
 | succ k ih =>
   intro i hi _;have h1:=axis_inc h (i+(k+1)) (by omega) hi;have e:i+(k+1)-1=i+k:=by omega
   rw[e] at h1;by_cases hk:k=0
   ·subst hk; exact h1
   ·have:=ih i (by omega) (by omega); omega
theorem axis_lt{xs:List Int}(h:isAxis xs=true){i j:Nat}(hij:i<j)(hj:j<xs.length):xs.getD i 0<xs.getD j 0:=by
 have:=axis_mono h (j-i) i (by omega) (by omega);have e:i+(j-i)=j:=by omega
 rwa [e] at this
theorem axis_in{xs:List Int}(h:isAxis xs=true){i:Nat}(hi:i<xs.length):0<=xs.getD i 0/\xs.getD i 0<=100000:=by
 simp only[isAxis,ba,dq] at h;have h1:=h.1.2;rw[List.all_eq_true] at h1;have e:xs.getD i 0=xs[i]:=by rw[gq,List.getElem?_eq_getElem hi]; rfl
 rw[e];exact inB_iff.1 (h1 _ (List.getElem_mem hi))
theorem table_in{t:DTbl}(h:isTable t=true){i:Nat}(hi:i<t.2.2.length) : -1000000<=t.2.2.getD i 0/\t.2.2.getD i 0<=1000000:=by
 simp only[isTable,ba,dq] at h;have h1:=h.2;rw[List.all_eq_true] at h1;have e:t.2.2.getD i 0=t.2.2[i]:=by rw[gq,List.getElem?_eq_getElem hi]; rfl
 rw[e];exact inB_iff.1 (h1 _ (List.getElem_mem hi))
theorem axis_at{xs:List Int}(h:isAxis xs=true){x:Int}(h0:xs.getD 0 0<=x)(h1:x<=xs.getD (xs.length-1) 0):∃p,p<xs.length/\(∀i,i<p->xs.getD i 0<x)/\(∀i,p<=i->i<xs.length->x<=xs.getD i 0):=by
 have key:∀m,m<=xs.length->(∃p,p<m/\(∀i,i<p->xs.getD i 0<x)/\x<=xs.getD p 0)∨∀i,i<m->xs.getD i 0<x:=by
  intro m
  induction m with
  | zero=>exact fun _=>.inr fun i hi=>by omega
  | succ m ih =>
    intro hm;rcases ih (by omega) with ⟨p,hp,h2,h3⟩ | h2
    ·exact .inl ⟨p,by omega,h2,h3⟩
    ·by_cases hx:x<=xs.getD m 0
     ·exact .inl ⟨m,by omega,h2,hx⟩
     ·exact .inr fun i hi=>by
       by_cases him:i=m
       ·subst him; omega
       ·exact h2 i (by omega)
 have hl:=axis_len h;rcases key xs.length (Nat.le_refl _) with ⟨p,hp,h2,h3⟩ | h2
 ·refine⟨p,hp,h2,fun i hpi hi=>?_⟩;by_cases he:p=i
  ·subst he; exact h3
  ·have:=axis_lt h (by omega:p<i) hi; omega
 ·have:=h2 (xs.length-1) (by omega); omega
theorem lp_of{σ ρ:Type}{F:(σ->Option ρ)->σ->Option ρ}{s:σ}{r:Option ρ}(k:Nat)(hk:k<=9223372036854775807)(h:∀n,itF F (n+k) s=r):lp F s=r:=by
 have e:big=(big-k)+k:=by have:=big_gt hk; omega
 unfold lp;rw[e];exact h _
theorem mid_nat(i j:Nat):((i:Int)+(j:Int)).fdiv ((2:Int) ^ Int.toNat (1:Int))=((((i+j) / 2:Nat)):Int):=by
 have e:(2:Int) ^ Int.toNat (1:Int)=2:=by decide
 rw[e,Int.fdiv_eq_ediv_of_nonneg _ (by omega)];omega
theorem mul_bd{x y A B:Int}(h1 : -A<=x)(h2:x<=A)(h3:0<=y)(h4:y<=B)(hA:0<=A) : -(A*B)<=x*y/\x*y<=A*B:=by
 have a1:x*y<=A*y:=Int.mul_le_mul_of_nonneg_right h2 h3;have a2:A*y<=A*B:=Int.mul_le_mul_of_nonneg_left h4 hA;have a3 : -A*y<=x*y:=Int.mul_le_mul_of_nonneg_right h1 h3;rw[Int.neg_mul] at a3;omega
theorem row_ix{p q n1 n2:Nat}(hp:p<n1)(hq:q<n2):p*n2+q<n1*n2:=by
 have h1:(p+1)*n2<=n1*n2:=Nat.mul_le_mul_right _ hp;rw[Nat.add_mul,Nat.one_mul] at h1;omega
end Go.Proofs.Xd
end
section
namespace Go.Proofs.Xd
open Go Go.Proofs Go.Proofs.Xl
def divV(a b m:Int):Int:=if(decide (a.tmod b<0)&&m==0)=true then a.tdiv b-1 else if(decide (0<a.tmod b)&&m==1)=true then a.tdiv b+1 else a.tdiv b
theorem divV_bd{a b K:Int}(m:Int)(hb:0<b)(h1 : -(K*b)<=a)(h2:a<=K*b) : -K<=divV a b m/\divV a b m<=K:=by
 have e:=Int.mul_tdiv_add_tmod a b;have r1:=Int.tmod_lt_of_pos a hb;have r2:=Int.lt_tmod_of_pos a hb;have eK:b*K=K*b:=Int.mul_comm _ _;have key1:∀q:Int,b*q<b*K+b->q<=K:=fun q h=>by
  have:b*q<b*(K+1):=by rw[Int.mul_add,Int.mul_one]; exact h
  have:=Int.lt_of_mul_lt_mul_left this (Int.le_of_lt hb);omega
 have key2:∀q:Int,-(b*K)-b<b*q -> -K<=q:=fun q h=>by
  have:b*(-K-1)<b*q:=by rw[Int.mul_sub,Int.mul_one,Int.mul_neg]; exact h
  have:=Int.lt_of_mul_lt_mul_left this (Int.le_of_lt hb);omega
 have key3:∀q:Int,b*q<b*K->q<K:=fun q h=>Int.lt_of_mul_lt_mul_left h (Int.le_of_lt hb);have key4:∀q:Int,-(b*K)<b*q -> -K<q:=fun q h=>by
  have:b*(-K)<b*q:=by rw[Int.mul_neg]; exact h
  exact Int.lt_of_mul_lt_mul_left this (Int.le_of_lt hb)
 have q1:=key1 (a.tdiv b) (by omega);have q2:=key2 (a.tdiv b) (by omega);unfold divV;split
 ·rename_i h;rw[ba,dq] at h;have:=key4 (a.tdiv b) (by omega);omega
 ·split
  ·rename_i h;rw[ba,dq] at h;have:=key3 (a.tdiv b) (by omega);omega
  ·omega
theorem lp_meas{σ ρ:Type}{F:(σ->Option ρ)->σ->Option ρ}{J:σ->Option ρ}(μ:σ->Nat)(I:σ->Prop)(c:σ->Bool)(nx:σ->σ)
  (hF:∀g s,I s->F g s=if c s=true then g (nx s) else J s) (hI:∀s,I s->c s=true->I (nx s)/\μ (nx s)<μ s) (s:σ) (hs:I s) (hm:μ s<=9223372036854775806):∃s',I s'/\c s'=false/\lp F s=J s':=by
 have key:∀(n:Nat) (s:σ),μ s<=n->I s->∃s',I s'/\c s'=false/\∀k,itF F (k+(n+1)) s=J s':=by
  intro n
  induction n with
  | zero =>
    intro s hn hs;cases hc:c s with
    | true=>have:=(hI s hs hc).2; omega
    | false=>exact⟨s,hs,hc,fun k=>by show F (itF F k) s=_; rw[hF _ _ hs,hc]; rfl⟩
  | succ n ih =>
    intro s hn hs;cases hc:c s with
    | true =>
      obtain⟨h1,h2⟩:=hI s hs hc;obtain⟨s',h3,h4,h5⟩:=ih (nx s) (by omega) h1;refine⟨s',h3,h4,fun k=>?_⟩;show F (itF F (k+(n+1))) s=_;rw[hF _ _ hs,hc,if_pos rfl];exact h5 k
    | false=>exact⟨s,hs,hc,fun k=>by show F (itF F (k+(n+1))) s=_; rw[hF _ _ hs,hc]; rfl⟩
 obtain⟨s',h1,h2,h3⟩:=key (μ s) s (Nat.le_refl _) hs;exact⟨s',h1,h2,lp_of (μ s+1) (by omega) h3⟩
def Root(n r:Int):Prop:=0<=r/\r*r<=n/\n < (r+1)*(r+1)
theorem mid_up{l h:Int}(h0:0<=l)(hlt:l<h):(l+h+1).tdiv 2=(l+h+1) / 2/\l < (l+h+1) / 2/\(l+h+1) / 2<=h:=by
 refine⟨Int.tdiv_eq_ediv_of_nonneg (by omega),by omega,by omega⟩
def halfN(n:Int)(s:Int×Int):Int×Int:=if decide ((s.1+s.2+1).tdiv 2*(s.1+s.2+1).tdiv 2<=n)=true then((s.1+s.2+1).tdiv 2,s.2) else(s.1,(s.1+s.2+1).tdiv 2-1)
theorem lp_root{F:(Int×Int->Option Int)->Int×Int->Option Int}{J:Int->Option Int}{n H:Int}(h0:0<=n)(hH:n < (H+1)*(H+1))(hH0:0<=H)(hHb:H<=3000000000)
  (hF:∀g (s:Int×Int),0<=s.1->s.1<=s.2->s.2<=H->F g s=if decide (s.1<s.2)=true then g (halfN n s) else J s.1):∃r,Root n r/\r<=H/\lp F (0,H)=J r:=by
 obtain⟨s',⟨i1,i2,i3,i4,i5⟩,hc,he⟩:=lp_meas (J:=fun s:Int×Int=>J s.1) (fun s=>(s.2-s.1).toNat) (fun s=>0<=s.1/\s.1<=s.2/\s.2<=H/\s.1*s.1<=n/\n < (s.2+1)*(s.2+1)) (fun s=>decide (s.1<s.2)) (halfN n)
  (fun g s hs=>hF g s hs.1 hs.2.1 hs.2.2.1) (fun s hs hc=>by
    obtain⟨j1,j2,j3,j4,j5⟩:=hs;have hc:=of_decide_eq_true hc;obtain⟨m1,m2,m3⟩:=mid_up j1 hc;unfold halfN;rw[m1];split
    ·rename_i hq;have hq:=of_decide_eq_true hq;exact⟨⟨by show 0<=(s.1+s.2+1) / 2; omega,m3,j3,hq,j5⟩,by show(s.2-(s.1+s.2+1) / 2).toNat < (s.2-s.1).toNat; omega⟩
    ·rename_i hq;have hq:n < (s.1+s.2+1) / 2*((s.1+s.2+1) / 2):=by
      rw[dq] at hq;omega
     refine⟨⟨j1,by show s.1<=(s.1+s.2+1) / 2-1; omega,by show(s.1+s.2+1) / 2-1<=H; omega,j4,?_⟩,by show((s.1+s.2+1) / 2-1-s.1).toNat < (s.2-s.1).toNat; omega⟩;show n < ((s.1+s.2+1) / 2-1+1)*((s.1+s.2+1) / 2-1+1);rw[Int.sub_add_cancel];exact hq) (0,H) ⟨Int.le_refl _,hH0,Int.le_refl _,by show(0:Int)*0<=n; omega,hH⟩ (by show(H-0).toNat<=_; omega)
 have hc:=of_decide_eq_false hc;have e:s'.1=s'.2:=by omega
 exact⟨s'.1,⟨i1,i4,by rw[e]; exact i5⟩,by omega,he⟩
theorem divV_0{a b:Int}(ha:0<=a)(hb:0<b):divV a b 0=a / b:=by
 unfold divV;rw[Int.tdiv_eq_ediv_of_nonneg ha,Int.tmod_eq_emod_of_nonneg ha,if_neg,if_neg]
 ·simp
 ·have:=Int.emod_nonneg a (Int.ne_of_gt hb);simp;omega
theorem divV_1{a b:Int}(ha:0<=a)(hb:0<b):divV a b 1=if 0<a % b then a / b+1 else a / b:=by
 unfold divV;rw[Int.tdiv_eq_ediv_of_nonneg ha,Int.tmod_eq_emod_of_nonneg ha,if_neg (by simp)];by_cases h:0<a % b
 ·rw[if_pos h,if_pos (by simp[h])]
 ·rw[if_neg h,if_neg (by simp[h])]
def wslewV(n m R:Int):Int:=if(m==1&&decide (R*R<n))=true then R.tdiv 500+1 else divV R 500 m
end Go.Proofs.Xd
end
section
namespace Go.Proofs.Xd
open Go.Proofs.Xl
section
variable (M N:Nat) (fr to:Nat->Nat) (lv:Nat->Bool)
def cntO(out:List Nat)(v:Nat):Nat:=(List.range M).countP fun i=>lv i&&to i==v&&!out.contains (fr i)
variable {M N fr to lv}
structure OInv(M N:Nat)(fr to:Nat->Nat)(lv:Nat->Bool)(out:List Nat)(o:List Int):Prop where
 len:o.length=N
 un:∀v,v<N->v ∉ out->o.getD v 0=cntO M fr to lv out v
 li:∀v,v<N->v∈out->o.getD v 0<0
 lo:∀v,v<N -> -(1+(out.length:Int)*M)<=o.getD v 0
 hi:∀v,v<N->o.getD v 0<=M
end
end Go.Proofs.Xd
end
section
namespace Go.Proofs.YtphnknndgfgepaaGreatDoor
open Go Go.Proofs Go.Proofs.Xv Go.Proofs.Xl Go.Proofs.Xd
theorem r150(a b c:Int):u150 a b c=some (inB a b c):=rfl
theorem r97(a b c:Int):u97 a b c=some (inB a b c):=rfl
theorem r211(a b c:Int):u211 a b c=some (!inB a b c):=by
 unfold u211;rw[r150,gP ⟨rfl,trivial⟩,vS]
theorem r210c211(xs:List Int)(b c:Int)(h:xs.length<=9223372036854775807):u210c211 xs (b,c)=some (xs.any fun x=>!inB x b c):=by
 have h1:u241c211 xs (b,c)=_:=idx_some h (fun i=>!inB (xs.getD i 0) b c) (fun g i hi=>idx_el hi h (r211 _ _ _)) (fun g=>aE);have:=has_some h1;rw[any_getD xs 0 (fun x=>!inB x b c)] at this;exact this
theorem r173(xs:List Int)(b c:Int)(h:xs.length<=9223372036854775807):u173 xs b c=some (xs.all (inB · b c)):=by
 unfold u173;rw[r210c211 _ _ _ h,gP ⟨rfl,trivial⟩,vS,all_any]
theorem r174(xs:List Int)(h:xs.length<=9223372036854775807)(h1:1<=xs.length):u174 xs=some (incB xs):=by
 have key:=lp_allK h (fun i=>decide (xs.getD i 0<=xs.getD (i-1) 0)) (some false) (e:=some true) (F:=u174L1 xs) 1 h1 (fun g i hk hi=>by
  have e:((i:Int)-1).toNat=i-1:=by omega
  refine(all_el hi h ⟨oo,oo,oo,trivial⟩).trans ?_;rw[e]; rfl) (fun g=>aE)
 refine key.trans ?_;unfold incB;have:((List.range xs.length).any fun i=>decide (1<=i)&&decide (xs.getD i 0<=xs.getD (i-1) 0))=(List.range xs.length).any fun i=>decide (0<i)&&decide (xs.getD i 0<=xs.getD (i-1) 0):=rfl;rw[this];cases(List.range xs.length).any fun i=>decide (0<i)&&decide (xs.getD i 0<=xs.getD (i-1) 0) <;> rfl
theorem r287(xs:List Int)(h:xs.length<=9223372036854775807):u287 xs=some (isAxis xs):=by
 unfold u287;have e:u129 xs=some (xs.length:Int):=rfl;have ed:∀a:Bool,(a=true->1<=xs.length)->(a=true/\True->(u174 xs).isSome=true):=fun a ha hc=>by rw[r174 xs h (ha hc.1)]; rfl
 rw[e,vS,r150,vS,r173 xs 0 100000 h,vS,gP ⟨rfl,rfl,fun _=>rfl,ed _ (fun hc=>by
  simp only[inB,ba,dq] at hc; omega),trivial⟩]
 congr 1;unfold isAxis;by_cases h1:1<=xs.length
 ·rw[r174 xs h h1,vS];congr 2;rw[Bool.eq_iff_iff];simp only[inB,ba,dq];omega
 ·have h2:decide (1<=xs.length)=false:=by simpa using h1
  have h3:inB (xs.length:Int) 1 4=false:=by
   rw[<- Bool.not_eq_true,inB_iff]; omega
  rw[h2,h3]; rfl
theorem r285(xs:List Int)(h:xs.length<=9223372036854775807):u285 xs=some (isAxis xs):=by
 have key:=lp_all (n:=xs.length) h (fun i=>!inB (xs.getD i 0) 0 100000||decide (0<i)&&decide (xs.getD i 0<=xs.getD (i-1) 0)) (some false) (e:=u285J0 xs ()) (F:=u285L1 xs) (fun g i hi=>by
  have e:((i:Int)-1).toNat=i-1:=by omega
  have e2:decide ((0:Int) < (i:Int))=decide (0<i):=by rw[decide_eq_decide]; omega
  refine(all_el hi h ⟨oo,rfl,fun hc=>oo,fun hc=>⟨by have:=hc.1; simp at this; omega,by omega⟩,fun hc=>oo,trivial⟩).trans ?_;rw[e,r97,vS,e2]; rfl) (fun g=>aE)
 refine key.trans ?_;unfold isAxis u285J0;have e3:((List.range xs.length).any fun i=>!inB (xs.getD i 0) 0 100000||decide (0<i)&&decide (xs.getD i 0<=xs.getD (i-1) 0))=!(xs.all (inB · 0 100000)&&incB xs):=by
  rw[<- all_any,<- any_getD xs 0 (fun x=>!inB x 0 100000),incB,<- Bool.not_or,Bool.not_not];rw[Bool.eq_iff_iff,Bool.or_eq_true,List.any_eq_true,List.any_eq_true,List.any_eq_true];constructor
  ·rintro⟨i,h1,h2⟩;rcases Bool.or_eq_true _ _ ▸ h2 with h3 | h3
   ·exact .inl ⟨i,h1,h3⟩
   ·exact .inr ⟨i,h1,h3⟩
  ·rintro(⟨i,h1,h2⟩ | ⟨i,h1,h2⟩)
   ·exact⟨i,h1,by rw[h2]; rfl⟩
   ·exact⟨i,h1,by rw[h2,Bool.or_true]⟩
 rw[e3];cases hA:(xs.all (inB · 0 100000)&&incB xs) with
 | false=>rw[if_pos (by rfl),Bool.and_assoc,hA,Bool.and_false]
 | true =>
   rw[if_neg (by simp),Bool.and_assoc,hA,Bool.and_true];refine congrArg some ?_;rw[Bool.eq_iff_iff];simp only[ba,dq];omega
theorem r281(t:Y140)(hw:wf y140 t):u281 t=some (isTable t):=by
 obtain⟨⟨h1,_⟩,⟨h2,_⟩,h3,_⟩:=hw;unfold u281;have hb:(isAxis t.1&&isAxis t.2.1)=true/\True->in64 ((t.1.length:Int)*(t.2.1.length:Int)):=fun hc=>by
  have hc:=hc.1;rw[ba] at hc;obtain⟨a1,a2⟩:=axis_len hc.1;obtain⟨b1,b2⟩:=axis_len hc.2;have c2:t.1.length*t.2.1.length<=4*4:=Nat.mul_le_mul a2 b2;have e:(t.1.length:Int)*(t.2.1.length:Int)=((t.1.length*t.2.1.length:Nat):Int):=by simp
  rw[e];exact oo
 rw[r287 _ h1,r287 _ h2,r173 _ _ _ h3,vS,vS,vS,gP ⟨rfl,fun _=>rfl,hb,fun _=>rfl,trivial⟩];congr 1;unfold isTable;congr 2;rw[Bool.eq_iff_iff];simp only[beq_iff_eq,dq];constructor
 ·intro h; exact_mod_cast h
 ·intro h; exact_mod_cast h
theorem r277(t:Y140)(hw:wf y140 t):u277 t=some (isTable t):=by
 obtain⟨⟨h1,_⟩,⟨h2,_⟩,h3,_⟩:=hw;unfold u277;have hb:(!isAxis t.1||!isAxis t.2.1)=false/\True->in64 ((t.1.length:Int)*(t.2.1.length:Int)):=fun hc=>by
  have hc:=hc.1;simp only[Bool.or_eq_false_iff,Bool.not_eq_false'] at hc;obtain⟨a1,a2⟩:=axis_len hc.1;obtain⟨b1,b2⟩:=axis_len hc.2;have c2:t.1.length*t.2.1.length<=4*4:=Nat.mul_le_mul a2 b2;have e:(t.1.length:Int)*(t.2.1.length:Int)=((t.1.length*t.2.1.length:Nat):Int):=by simp
  rw[e];exact oo
 rw[r285 _ h1,r285 _ h2,vS,vS,gP ⟨rfl,fun _=>rfl,hb,trivial⟩];have key:=lp_all (n:=t.2.2.length) h3 (fun i=>!inB (t.2.2.getD i 0) (-1000000) 1000000) (some false) (e:=some true) (F:=u277L1 t) (fun g i hi=>all_el hi h3 ⟨oo,rfl,trivial⟩) (fun g=>aE);rw[key,any_getD t.2.2 0 (fun x=>!inB x (-1000000) 1000000)];have e:((t.2.2.length:Int) != (t.1.length:Int)*(t.2.1.length:Int))=!decide (t.2.2.length=t.1.length*t.2.1.length):=by
  rw[Bool.eq_iff_iff];simp only[bne_iff_ne,Bool.not_eq_true',decide_eq_false_iff_not,ne_eq];constructor
  ·intro h k; exact h (by exact_mod_cast k)
  ·intro h k; exact h (by exact_mod_cast k)
 rw[e];unfold isTable;rw[<- all_any];cases isAxis t.1 <;> cases isAxis t.2.1 <;> cases decide (t.2.2.length=t.1.length*t.2.1.length) <;> cases(t.2.2.any fun x=>!inB x (-1000000) 1000000) <;> rfl
end Go.Proofs.YtphnknndgfgepaaGreatDoor
end
section
namespace Go.Proofs.YtphnknndgfgepaaGreatDoor
open Go Go.Proofs Go.Proofs.Sv Go.Proofs.Xv Go.Proofs.Xl Go.Proofs.Xd
theorem r151(s:ByteArray)(h:s.size<=9223372036854775807):u151 s=some (nmB s):=by
 have key:=lp_all (n:=s.size) h (fun i=>!chB (byteAt s i) i) (some false) (e:=u151J0 s ()) (F:=u151L1 s) (fun g i hi=>by
  refine(all_el2 hi h ⟨oo,fun _=>oo,trivial⟩ ⟨oo,fun _=>oo,trivial⟩).trans ?_;have e2:decide ((0:Int) < (i:Int))=decide (0<i):=by rw[decide_eq_decide]; omega
  have e3:((i:Int)).toNat=i:=rfl;rw[e2,e3];unfold chB lowB digB;rw[Bool.not_or]) (fun g=>aE)
 refine key.trans ?_;unfold nmB u151J0;rw[nmTo_any];cases(List.range s.size).any fun i=>!chB (byteAt s i) i
 ·rfl
 ·rfl
theorem r109(s:ByteArray)(h:s.size<=9223372036854775807):u109 s=some (nmB s):=by
 unfold u109;have t1:u167 s ⟨#[97,98,99,100,101,102,103,104,105,106,107,108,109,110,111,112,113,114,115,116,117,118,119,120,121,122,48,49,50,51,52,53,54,55,56,57]⟩=some ⟨(Lib.trimS s.data.toList low36).toArray⟩:=if_pos ⟨by decide,by decide⟩;have t2:∀c,u168 ⟨#[97,98,99,100,101,102,103,104,105,106,107,108,109,110,111,112,113,114,115,116,117,118,119,120,121,122]⟩ c=some (Lib.indexByte low26 c.toNat.toUInt8):=fun _=>rfl;rw[t1,t2,r150,vS,vS,vS,gP ⟨rfl,fun _=>rfl,fun hc=>⟨by decide,by
  have:=hc.1;rw[ba,inB_iff] at this;omega⟩,fun _=>rfl,trivial⟩,lE]
 refine congrArg some ?_;show(inB (s.size:Int) 1 8&&decide ((⟨(Lib.trimS s.data.toList low36).toArray⟩:ByteArray)=⟨#[]⟩)&&decide (0<=Lib.indexByte low26 (byteAt s (Int.toNat 0)).toNat.toUInt8))=nmB s;by_cases hb:1<=s.size/\s.size<=8
 ·rw[nmB_trim s hb.1 hb.2];have e1:inB (s.size:Int) 1 8=true:=by rw[inB_iff]; omega
  have e2:decide ((⟨(Lib.trimS s.data.toList low36).toArray⟩:ByteArray)=⟨#[]⟩)=(Lib.trimS s.data.toList low36==[]):=by
   rw[Bool.eq_iff_iff,dq,beq_iff_eq];constructor
   ·intro h;injection h with h;have:=congrArg Array.toList h;simpa using this
   ·intro h; rw[h]
  rw[e1,e2,Bool.true_and];rfl
 ·have e1:inB (s.size:Int) 1 8=false:=by rw[<- Bool.not_eq_true,inB_iff]; omega
  have e2:nmB s=false:=by
   rw[<- Bool.not_eq_true];intro hc;simp only[nmB,ba,dq] at hc;omega
  rw[e1,e2]; rfl
theorem r245(xs:List ByteArray)(x:ByteArray)(h:xs.length<=9223372036854775807):u245 xs x=some (xs.any fun y=>decide (x=y)):=by
 have h1:u264 xs x=_:=idx_some h (fun i=>decide (x=xs.getD i (dflt .str))) (fun g i hi=>by
  refine(if_pos (by simpa using hi)).trans ?_;rw[gP ⟨oo,trivial⟩,gP ⟨oo,trivial⟩];rfl) (fun g=>aE)
 have:=has_some h1;rw[any_getD xs (dflt .str) (fun y=>decide (x=y))] at this;exact this
theorem r213(xs:List ByteArray)(hw:wf (.sl .str) xs):u213 xs=some (namesB xs.length fun i=>xs.getD i (dflt .str)):=by
 have h:=hw.1;have key:=lp_all (n:=xs.length) h (fun i=>!nmB (xs.getD i (dflt .str))||dupB (fun i=>xs.getD i (dflt .str)) i) (some false) (e:=some true) (F:=u213L1 xs) (fun g i hi=>by
  have hs:=wf_el (d:=dflt .str) hi hw;have hl:(xs.take i).length<=9223372036854775807:=by rw[List.length_take]; omega
  have e1:=r109 _ hs;have e2:=r245 (xs.take i) (xs.getD i (dflt .str)) hl;rw[take_any xs (dflt .str) i hi] at e2;have e3:((i:Int)).toNat=i:=rfl;refine(if_pos (by simpa using hi)).trans ?_;rw[e3,e1,e2,vS,vS,gP ⟨oo,trivial⟩,gP ⟨rfl,fun _=>⟨by omega,by omega,by omega⟩,fun _=>rfl,trivial⟩,gP ⟨oo,trivial⟩]) (fun g=>aE)
 refine key.trans ?_;unfold namesB;cases(List.range xs.length).any fun i=>!nmB (xs.getD i (dflt .str))||dupB (fun i=>xs.getD i (dflt .str)) i <;> rfl
theorem r134(xs:List ByteArray)(hw:wf (.sl .str) xs):u134 xs=some (namesB xs.length fun i=>xs.getD i (dflt .str)):=by
 have h:=hw.1;have key:=lp_all (n:=xs.length) h (fun i=>!nmB (xs.getD i (dflt .str))||dupB (fun i=>xs.getD i (dflt .str)) i) (some false) (e:=some true) (F:=u134L1 xs) (fun g i hi=>by
  have hs:=wf_el (d:=dflt .str) hi hw;have e1:=r151 _ hs;have e3:((i:Int)).toNat=i:=rfl;have inner:=lp_all (n:=i) (by omega) (fun k=>decide (xs.getD k (dflt .str)=xs.getD i (dflt .str))) (some false) (e:=g ((i:Int)+1)) (F:=u134L3 xs (i:Int) g) (fun g3 k hk=>by
   refine(all_el hk (by omega) ⟨oo,oo,trivial⟩).trans ?_;rfl) (fun g3=>by
   refine aE.trans ?_;unfold u134J2;exact gP ⟨oo,trivial⟩)
  refine(if_pos (by simpa using hi)).trans ?_;rw[e3,e1,vS,gP ⟨oo,rfl,trivial⟩,inner];unfold dupB;cases nmB (xs.getD i (dflt .str)) <;> cases(List.range i).any fun k=>decide (xs.getD k (dflt .str)=xs.getD i (dflt .str)) <;> rfl) (fun g=>aE)
 refine key.trans ?_;unfold namesB;cases(List.range xs.length).any fun i=>!nmB (xs.getD i (dflt .str))||dupB (fun i=>xs.getD i (dflt .str)) i <;> rfl
theorem r282(xs:List Int)(h:xs.length<=9223372036854775807)(h1:1<=xs.length):u282 xs=some (minN xs):=by
 unfold u282;rw[if_neg (by simp; omega)];unfold u282J0;rw[gP ⟨oo,trivial⟩];have key:=lF (n:=xs.length-1) (by omega) (fun i (m:Int)=>(m,((i+1:Nat):Int))) (fun i m=>min m (xs.getD (i+1) 0)) (fun _ _=>True) (J:=fun m=>some m) (F:=u282L2 xs) (fun g i s hi _=>by
  refine(if_pos (by simp; omega)).trans ?_;rw[gP ⟨oo,trivial⟩,gP ⟨oo,trivial⟩];rfl) (fun _ _ _ _=>trivial) (fun g s _=>by
  have e:xs.length-1+1=xs.length:=by omega
  show u282L2 xs g (s,((xs.length-1+1:Nat):Int))=some s;rw[e];exact aE) (xs.getD 0 0) trivial
 exact key
theorem r280(t:Y140)(p:Bool)(hw:wf y140 t):u280 t p=some (!isTable t||p&&decide (minN t.2.2<0)):=by
 unfold u280;have hv:p=true/\(!isTable t)=false/\True->(u282 t.2.2).isSome=true:=fun hc=>by
  have h2:isTable t=true:=by simpa using hc.2.1
  rw[r282 _ hw.2.2.1 (table_len h2).2.2.2.2.2.1]; rfl
 rw[r281 t hw,vS,gP ⟨rfl,hv,trivial⟩,lE];refine congrArg some ?_;cases hT:isTable t with
 | false=>rfl
 | true=>rw[r282 _ hw.2.2.1 (table_len hT).2.2.2.2.2.1,vS]
theorem r272(l:List Y140)(p:Bool)(hw:wf (.sl y140) l):u272 l p=some (areTables l p):=by
 have h:=hw.1;have h1:u286c280 l p=_:=idx_some h (fun i=>!isTable (l.getD i (dflt y140))||p&&decide (minN (l.getD i (dflt y140)).2.2<0)) (fun g i hi=>idx_el hi h (r280 _ _ (wf_el hi hw))) (fun g=>aE);have h2:u279c280 l p=_:=has_some h1;rw[any_getD l (dflt y140) (fun t=>!isTable t||p&&decide (minN t.2.2<0))] at h2;unfold u272;rw[h2,vS,gP ⟨fun _=>rfl,trivial⟩];refine congrArg some ?_;unfold areTables;have e:((l.length:Int)==2)=decide (l.length=2):=by
  rw[Bool.eq_iff_iff,beq_iff_eq,dq]; omega
 rw[e,<- all_any];congr 3;funext t;rw[Bool.not_and,Bool.not_not]
theorem fst_fold(xs:List Int):∀n,(fN (fun i (s:Int×Int)=>(min s.1 (xs.getD (i+1) 0),max s.2 (xs.getD (i+1) 0))) n (xs.getD 0 0,xs.getD 0 0)).1=fN (fun i m=>min m (xs.getD (i+1) 0)) n (xs.getD 0 0)
 | 0=>rfl
 | n+1=>by rw[fN,fN,fst_fold xs n]
theorem r265(t:Y140)(hw:wf y140 t):∃l,u265 t=some (if isTable t=true then((minN t.2.2,l),0) else((0,0),1)):=by
 unfold u265;rw[r277 t hw,vS,gP ⟨rfl,trivial⟩];cases hT:isTable t with
 | false=>exact⟨0,rfl⟩
 | true =>
   have h1:=(table_len hT).2.2.2.2.2.1;have h:=hw.2.2.1;have key:=lF (n:=t.2.2.length-1) (by omega) (fun i (s:Int×Int)=>(((i+1:Nat):Int),s.1,s.2)) (fun i s=>(min s.1 (t.2.2.getD (i+1) 0),max s.2 (t.2.2.getD (i+1) 0))) (fun _ _=>True) (J:=fun s=>some ((s.1,s.2),(0:Int))) (F:=u265L1 t) (fun g i s hi _=>by
    refine(if_pos (by simp; omega)).trans ?_;rw[gP ⟨oo,trivial⟩,gP ⟨oo,trivial⟩,gP ⟨oo,trivial⟩];rfl) (fun _ _ _ _=>trivial) (fun g s _=>by
    have e:t.2.2.length-1+1=t.2.2.length:=by omega
    show u265L1 t g (((t.2.2.length-1+1:Nat):Int),s.1,s.2)=_;rw[e];exact aE) (t.2.2.getD 0 0,t.2.2.getD 0 0) trivial
   rw[if_neg (by simp),gP ⟨oo,oo,trivial⟩];rw[fst_fold] at key;exact⟨_,key⟩
theorem r246(l:List Y140)(p:Bool)(hw:wf (.sl y140) l):u246 l p=some (areTables l p):=by
 unfold u246;have e:((l.length:Int) != 2)=!decide (l.length=2):=by
  rw[Bool.eq_iff_iff]; simp; omega
 rw[e];unfold areTables;by_cases h2:l.length=2
 ·have key:=lp_all (n:=2) (by decide) (fun i=>!isTable (l.getD i (dflt y140))||p&&decide (minN (l.getD i (dflt y140)).2.2<0)) (some false) (e:=some true) (F:=u246L1 p l) (fun g i hi=>by
   obtain⟨m,hm⟩:=r265 (l.getD i (dflt y140)) (wf_el (by omega) hw);have e3:((i:Int)).toNat=i:=rfl;refine(if_pos (by simp; omega)).trans ?_;rw[e3,hm,vS,gP ⟨oo,rfl,trivial⟩,lE,gP ⟨oo,trivial⟩];cases isTable (l.getD i (dflt y140)) <;> rfl) (fun g=>by
   unfold u246L1;exact if_neg (by decide))
  rw[decide_eq_true h2,if_neg (by simp)];refine key.trans ?_;have:=any_getD l (dflt y140) (fun t=>!isTable t||p&&decide (minN t.2.2<0));rw[h2] at this;rw[this,<- all_any,Bool.true_and];have e5:(fun t:Y140=>!(isTable t&&!(p&&decide (minN t.2.2<0))))=fun t=>!isTable t||p&&decide (minN t.2.2<0):=by
   funext t; rw[Bool.not_and,Bool.not_not]
  rw[e5];cases l.any fun t=>!isTable t||p&&decide (minN t.2.2<0) <;> rfl
 ·rw[decide_eq_false h2]; rfl
end Go.Proofs.YtphnknndgfgepaaGreatDoor
end
